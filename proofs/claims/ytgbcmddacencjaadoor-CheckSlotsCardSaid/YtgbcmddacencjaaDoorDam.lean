import Derived.Test.YtgbcmddacencjaaDoorVfm
set_option linter.unusedSimpArgs false
set_option linter.unusedVariables false
namespace Go.SL
structure Arr (α:Type) where
 n:Nat
 f:Nat→α
abbrev eB:ByteArray:=bs []
def strs (l:Arr ByteArray):AV:=.lst 1 l.n (fun i=>[.str (l.f i)])
def ints (l:Arr Int):AV:=.lst 1 l.n (fun i=>[.int .i64 (l.f i)])
structure Val where
 kind:Int
 num:Int
 s:ByteArray
structure Ln where
 op:Int
 a:ByteArray
 b:ByteArray
 c:ByteArray
 name:ByteArray
 args:Arr ByteArray
 kind:Int
 num:Int
 s:ByteArray
structure Mt where
 name:ByteArray
 func:ByteArray
structure Cl where
 name:ByteArray
 fields:Arr ByteArray
 methods:Arr Mt
structure Fc where
 name:ByteArray
 params:Arr ByteArray
 lines:Arr Ln
structure Pg where
 classes:Arr Cl
 funcs:Arr Fc
structure Inf where
 slots:Arr (Arr ByteArray)
 ends : Arr (Arr Int)
 parent:Arr (Arr Int)
def lnC (l:Ln):List AV:=[.int .i64 l.op,.str l.a,.str l.b,.str l.c,.str l.name,strs l.args,.int .i64 l.kind,.int .i64 l.num,.str l.s]
def lns (l:Arr Ln):AV:=.lst 9 l.n (fun i=>lnC (l.f i))
def fcC (f:Fc):List AV:=[.str f.name,strs f.params,lns f.lines]
def fcs (l:Arr Fc):AV:=.lst 3 l.n (fun i=>fcC (l.f i))
def mtC (m:Mt):List AV:=[.str m.name,.str m.func]
def mts (l:Arr Mt):AV:=.lst 2 l.n (fun i=>mtC (l.f i))
def clC (c:Cl):List AV:=[.str c.name,strs c.fields,mts c.methods]
def cls (l:Arr Cl):AV:=.lst 3 l.n (fun i=>clC (l.f i))
def pgC (p:Pg):List AV:=[cls p.classes,fcs p.funcs]
def pgA (p:Pg):AV:=.agg (pgC p)
def strss (l:Arr (Arr ByteArray)):AV:=.lst 1 l.n (fun i=>[strs (l.f i)])
def intss (l:Arr (Arr Int)):AV:=.lst 1 l.n (fun i=>[ints (l.f i)])
def infC (i:Inf):List AV:=[strss i.slots,intss i.ends,intss i.parent]
def infA (i:Inf):AV:=.agg (infC i)
theorem size_pos {s:ByteArray} (h:¬ s = eB):0 < s.size:=by
 rcases Nat.eq_zero_or_pos s.size with h0 | h0
 ·exact absurd (ByteArray.size_eq_zero_iff.1 h0) (fun e=>h (by rw [e]; rfl))
 ·exact h0
def strOf:List AV→ByteArray | .str s :: _=>s | _=>eB
def intOf:List AV→Int | .int _ n :: _=>n | _=>0
def isStrs (F:Nat→List AV):Prop:=∀ i,F i = [.str (strOf (F i))]
def isInts (F:Nat→List AV):Prop:=∀ i,F i = [.int .i64 (intOf (F i))]
def lnsC:List Ln→List AV | []=>[] | l :: r=>lnC l ++ lnsC r
theorem lnsC_append:∀ {a b:List Ln},lnsC (a ++ b) = lnsC a ++ lnsC b
 | [],b=>rfl
 | l :: a,b=>by simp only [List.cons_append,lnsC,lnsC_append (a:=a),List.append_assoc]
theorem lnsC_length:∀ {a:List Ln},(lnsC a).length = a.length * 9
 | []=>rfl
 | l :: a=>by simp only [lnsC,List.length_append,lnsC_length (a:=a),lnC,List.length_cons,List.length_nil]; omega
theorem lnsC_closed:∀ {a:List Ln},ltNL 0 (lnsC a) = true
 | []=>rfl
 | l :: a=>by simp only [lnsC,ltNL_append,lnsC_closed (a:=a),Bool.and_true]; rfl
theorem lnsC_get (d:Ln):∀ {a:List Ln} {i:Nat},i < a.length→((lnsC a).drop (i * 9)).take 9 = lnC (a.getD i d)
 | [],i,h=>by simp at h
 | l :: a,0,h=>by simp [lnsC,lnC]
 | l :: a,i + 1,h=>by
  have e:(i + 1) * 9 = 9 + i * 9:=by omega
  rw [e,← List.drop_drop]
  have:(lnsC (l :: a)).drop 9 = lnsC a:=by simp [lnsC,lnC]
  rw [this,lnsC_get d (by simpa using h)]
  simp
def intL (l:List Int):List AV:=l.map fun n=>.int .i64 n
theorem intL_len {l:List Int}:(intL l).length = l.length:=by simp [intL]
theorem intL_append {a b:List Int}:intL (a ++ b) = intL a ++ intL b:=by simp [intL]
theorem intL_closed:∀ {l:List Int},ltNL 0 (intL l) = true
 | []=>rfl
 | n :: l=>by simp only [intL,List.map_cons,ltNL,ltN,Bool.true_and]; exact intL_closed (l:=l)
theorem intL_load {l:List Int} {i:Nat} (h:i < l.length):((intL l).drop i).getD 0 .any = .int .i64 (l.getD i 0):=by
 simp [intL,List.getD,List.getElem?_drop,List.getElem?_eq_getElem h]
theorem intL_set {l:List Int} {i:Nat} {n:Int}:(intL l).set i (.int .i64 n) = intL (l.set i n):=by
 simp [intL,List.map_set]
def prL:List (Int × Int)→List AV
 | []=>[]
 | p :: l=>.int .i64 p.1 :: .int .i64 p.2 :: prL l
theorem prL_len:∀ {l:List (Int × Int)},(prL l).length = l.length * 2
 | []=>rfl
 | p :: l=>by simp only [prL,List.length_cons,prL_len (l:=l)]; omega
theorem prL_append:∀ {a b:List (Int × Int)},prL (a ++ b) = prL a ++ prL b
 | [],b=>rfl
 | p :: a,b=>by simp only [List.cons_append,prL,prL_append (a:=a)]
theorem prL_closed:∀ {l:List (Int × Int)},ltNL 0 (prL l) = true
 | []=>rfl
 | p :: l=>by simp only [prL,ltNL,ltN,Bool.true_and]; exact prL_closed (l:=l)
theorem prL_load:∀ {l:List (Int × Int)} {i:Nat},i < l.length→((prL l).drop (i * 2)).take 2 = [.int .i64 (l.getD i (0,0)).1,.int .i64 (l.getD i (0,0)).2]
 | [],i,h=>by simp at h
 | p :: l,0,h=>by simp [prL]
 | p :: l,i + 1,h=>by
  have e:(i + 1) * 2 = i * 2 + 2:=by omega
  rw [e]
  have:(prL (p :: l)).drop (i * 2 + 2) = (prL l).drop (i * 2):=by simp [prL]
  rw [this,prL_load (l:=l) (by simpa using h)]
  simp
theorem LeL_of_eq {a b:List AV} (h:a = b):LeL a b:=h ▸ LeL.refl a
def idxI (n:Nat) (p:Nat→Bool):Int:=match (List.range n).find? p with | some k=>(k:Int) | none=>-1
theorem idxI_found {n:Nat} {p:Nat→Bool} {k:Nat} (h:k < n) (h1:p k = true) (h2:∀ j,j < k→p j = false):idxI n p = k:=by
 have:(List.range n).find? p = some k:=by
  rw [List.find?_range_eq_some]
  exact ⟨h1,by simpa using h,by simpa using h2⟩
 simp [idxI,this]
theorem idxI_none {n:Nat} {p:Nat→Bool} (h:∀ j,j < n→p j = false):idxI n p = -1:=by
 have:(List.range n).find? p = none:=by
  rw [List.find?_eq_none]
  intro j hj
  simp [h j (by simpa using hj)]
 simp [idxI,this]
theorem idxI_cases (n:Nat) (p:Nat→Bool):(∃ k,k < n∧p k = true∧(∀ j,j < k→p j = false)∧idxI n p = k)∨((∀ j,j < n→p j = false)∧idxI n p = -1):=by
 unfold idxI
 cases h:(List.range n).find? p with
 | none =>
  right
  rw [List.find?_eq_none] at h
  exact ⟨fun j hj=>by simpa using h j (by simpa using hj),rfl⟩
 | some k =>
  left
  rw [List.find?_range_eq_some] at h
  exact ⟨k,by simpa using h.2.1,h.1,by simpa using h.2.2,rfl⟩
def vars5:List ByteArray:=[bs [97],bs [98],bs [99],bs [100],bs [101]]
end Go.SL
namespace Go.SL
def stL (l:List ByteArray):List AV:=l.map fun s=>.str s
theorem stL_len {l:List ByteArray}:(stL l).length = l.length:=by simp [stL]
theorem stL_append {a b:List ByteArray}:stL (a ++ b) = stL a ++ stL b:=by simp [stL]
theorem stL_closed:∀ {l:List ByteArray},ltNL 0 (stL l) = true
 | []=>rfl
 | n :: l=>by simp only [stL,List.map_cons,ltNL,ltN,Bool.true_and]; exact stL_closed (l:=l)
theorem stL_ones:∀ {l:List ByteArray},AV.ones (stL l) = true
 | []=>rfl
 | n :: l=>by simp only [stL,List.map_cons,AV.ones]; exact stL_ones (l:=l)
theorem stL_load {l:List ByteArray} {i:Nat} (h:i < l.length):((stL l).drop i).getD 0 .any = .str (l.getD i eB):=by
 simp [stL,List.getD,List.getElem?_drop,List.getElem?_eq_getElem h]
theorem stL_set {l:List ByteArray} {i:Nat} {n:ByteArray}:(stL l).set i (.str n) = stL (l.set i n):=by
 simp [stL,List.map_set]
theorem stL_take {l:List ByteArray} {i:Nat}:(stL l).take i = stL (l.take i):=by simp [stL,List.map_take]
theorem stL_get {l:List ByteArray} {i:Nat} (h:i < l.length):((stL l).drop (i * 1)).take 1 = [.str (l.getD i eB)]:=by
 rw [Nat.mul_one]
 simp [stL,List.getD,List.getElem?_eq_getElem h,List.take_one,List.head?_drop]
theorem intL_get {l:List Int} {i:Nat} (h:i < l.length):((intL l).drop (i * 1)).take 1 = [.int .i64 (l.getD i 0)]:=by
 rw [Nat.mul_one]
 simp [intL,List.getD,List.getElem?_eq_getElem h,List.take_one,List.head?_drop]
theorem prL_take:∀ {l:List (Int × Int)} {i:Nat},(prL l).take (i * 2) = prL (l.take i)
 | [],i=>by simp [prL]
 | p :: l,0=>by simp [prL]
 | p :: l,i + 1=>by
  have e:(i + 1) * 2 = i * 2 + 2:=by omega
  rw [e]; simp [prL,prL_take (l:=l)]
def arrL {α:Type} (l:Arr α):List α:=(List.range l.n).map l.f
theorem arrL_len {α:Type} {l:Arr α}:(arrL l).length = l.n:=by simp [arrL]
theorem arrL_get {α:Type} {l:Arr α} {d:α} {i:Nat} (h:i < l.n):(arrL l).getD i d = l.f i:=by
 simp [arrL,List.getD,List.getElem?_map,List.getElem?_range h]
theorem flat_stL (f:Nat→ByteArray):∀ (is:List Nat),((is.map fun i=>[AV.str (f i)]).flatten) = stL (is.map f)
 | []=>rfl
 | i :: is=>by simp only [List.map_cons,List.flatten_cons,List.cons_append,List.nil_append,flat_stL f is]; rfl
def ofL {α:Type} (d:α) (l:List α):Arr α:=⟨l.length,fun i=>l.getD i d⟩
def ssL (l:List (Arr ByteArray)):List AV:=l.map strs
def iiL (l:List (Arr Int)):List AV:=l.map ints
theorem ssL_closed:∀ {l:List (Arr ByteArray)},ltNL 0 (ssL l) = true
 | []=>rfl
 | n :: l=>by simp only [ssL,List.map_cons,ltNL]; rw [show (l.map strs) = ssL l from rfl,ssL_closed (l:=l)]; rfl
theorem ssL_len {l:List (Arr ByteArray)}:(ssL l).length = l.length:=by simp [ssL]
theorem ssL_append {a b:List (Arr ByteArray)}:ssL (a ++ b) = ssL a ++ ssL b:=by simp [ssL]
theorem ssL_get {l:List (Arr ByteArray)} {d:Arr ByteArray} {i:Nat} (h:i < l.length):((ssL l).drop (i * 1)).take 1 = [strs (l.getD i d)]:=by
 rw [Nat.mul_one]
 simp [ssL,List.getD,List.getElem?_eq_getElem h,List.take_one,List.head?_drop]
theorem iiL_closed:∀ {l:List (Arr Int)},ltNL 0 (iiL l) = true
 | []=>rfl
 | n :: l=>by simp only [iiL,List.map_cons,ltNL]; rw [show (l.map ints) = iiL l from rfl,iiL_closed (l:=l)]; rfl
theorem iiL_len {l:List (Arr Int)}:(iiL l).length = l.length:=by simp [iiL]
theorem iiL_append {a b:List (Arr Int)}:iiL (a ++ b) = iiL a ++ iiL b:=by simp [iiL]
theorem iiL_get {l:List (Arr Int)} {d:Arr Int} {i:Nat} (h:i < l.length):((iiL l).drop (i * 1)).take 1 = [ints (l.getD i d)]:=by
 rw [Nat.mul_one]
 simp [iiL,List.getD,List.getElem?_eq_getElem h,List.take_one,List.head?_drop]
def varsL (x:Ln):List ByteArray:=([x.a,x.b,x.c] ++ arrL x.args).filter fun s=>!decide (s = eB)
def addV (acc:List ByteArray) (s:ByteArray):List ByteArray:=if (acc.any fun t=>decide (t = s)) = true then acc else acc ++ [s]
def slotsF (acc:List ByteArray) (ls:List Ln):List ByteArray:=ls.foldl (fun acc x=>(varsL x).foldl addV acc) acc
structure BS where
 e:List Int
 p:List Int
 o:List (Int × Int)
def topB (s:BS):Int × Int:=s.o.getLastD (-1,-1)
def opB (op:Int):Bool:=decide (op = 36) || decide (op = 38) || decide (op = 39)
def midB (op:Int):Bool:=decide (op = 37) || decide (op = 40) || decide (op = 41)
def stepB (op:Int) (s:BS):BS :=
 let n:Int:=s.e.length
 let t:=topB s
 if opB op then ⟨s.e ++ [-1],s.p ++ [t.2],s.o ++ [(n,n)]⟩
 else if midB op then ⟨(s.e ++ [-1]).set t.2.toNat n,s.p ++ [s.p.getD t.1.toNat 0],s.o.dropLast ++ [(t.1,n)]⟩
 else if op = 42 then ⟨s.e.set t.2.toNat n ++ [t.1],s.p ++ [s.p.getD t.1.toNat 0],s.o.dropLast⟩
 else ⟨s.e ++ [-1],s.p ++ [t.2],s.o⟩
def folB (op was:Int):Bool:=if op = 37 then decide (was = 36) else if op = 40 then decide (was = 39) else if op = 41 then decide (was = 39) || decide (was = 40) else if op = 42 then decide (was = 36) || decide (was = 37) || decide (was = 38) || decide (was = 40) || decide (was = 41) else true
end Go.SL
namespace Go.SL
theorem stL_at {l:List ByteArray} {i j:Nat} (e:j = i) (h:i < l.length):((stL l).drop j).getD 0 .any = .str (l.getD i eB):=by subst e; exact stL_load h
theorem intL_at {l:List Int} {i j:Nat} (e:j = i) (h:i < l.length):((intL l).drop j).getD 0 .any = .int .i64 (l.getD i 0):=by subst e; exact intL_load h
theorem prL_at {l:List (Int × Int)} {i j:Nat} (e:j = i * 2) (h:i < l.length):AV.agg (((prL l).drop j).take 2) = .agg [.int .i64 (l.getD i (0,0)).1,.int .i64 (l.getD i (0,0)).2]:=by subst e; exact congrArg AV.agg (prL_load h)
theorem stL_setAt {l:List ByteArray} {i j:Nat} {n:ByteArray} (e:j = i):(stL l).set j (.str n) = stL (l.set i n):=by subst e; exact stL_set
theorem intL_setAt {l:List Int} {i j:Nat} {n:Int} (e:j = i):(intL l).set j (.int .i64 n) = intL (l.set i n):=by subst e; exact intL_set
theorem lnI {l:List Int}:l.length * 1 = (intL l).length:=by rw [intL_len,Nat.mul_one]
theorem lnS {l:List ByteArray}:l.length * 1 = (stL l).length:=by rw [stL_len,Nat.mul_one]
theorem lnP {l:List (Int × Int)}:l.length * 2 = (prL l).length:=prL_len.symm
theorem lnSS {l:List (Arr ByteArray)}:l.length * 1 = (ssL l).length:=by rw [ssL_len,Nat.mul_one]
theorem lnII {l:List (Arr Int)}:l.length * 1 = (iiL l).length:=by rw [iiL_len,Nat.mul_one]
theorem drI {l:List Int} {j:Nat} (h:j < l.length):0 < ((intL l).drop j).length:=by rw [List.length_drop,intL_len]; omega
theorem drP {l:List (Int × Int)} {j:Nat} (h:j + 2≤l.length * 2):2≤((prL l).drop j).length:=by rw [List.length_drop,prL_len]; omega
theorem soI {l:List Int} {j:Nat} (h:j < l.length):j + 1≤(intL l).length:=by rw [intL_len]; omega
theorem leP {l:List (Int × Int)} {j:Nat} (h:j≤l.length * 2):j≤(prL l).length:=by rw [prL_len]; omega
theorem setAll_take:∀ (vs cs:List AV) (off k:Nat),k≤off→(setAll cs off vs).take k = cs.take k
 | [],cs,off,k,h=>rfl
 | v :: vs,cs,off,k,h=>by
  simp only [setAll]
  rw [setAll_take vs _ _ k (by omega),List.take_set_of_le h]
theorem setAll_closed:∀ (vs cs:List AV) (off:Nat),ltNL 0 vs = true→ltNL 0 cs = true→ltNL 0 (setAll cs off vs) = true
 | [],cs,off,_,h=>h
 | v :: vs,cs,off,hv,h=>by
  simp only [ltNL,Bool.and_eq_true] at hv
  refine setAll_closed vs _ _ hv.2 ?_
  have key:∀ (cs:List AV) (i:Nat),ltNL 0 cs = true→ltNL 0 (cs.set i v) = true:=by
   intro cs
   induction cs with
   | nil=>intro i h; exact h
   | cons c cs ih =>
    intro i h
    simp only [ltNL,Bool.and_eq_true] at h
    cases i with
    | zero=>simp only [List.set_cons_zero,ltNL,hv.1,h.2,Bool.and_self]
    | succ i=>simp only [List.set_cons_succ,ltNL,h.1,ih i h.2,Bool.and_self]
  exact key cs off h
theorem repZ_closed (z:List AV) (h:ltNL 0 z = true):∀ n,ltNL 0 (repZ n z) = true
 | 0=>rfl
 | n + 1=>by simp only [repZ,ltNL_append,h,repZ_closed z h n,Bool.and_self]
def neE (s:ByteArray):Bool:=!decide (s = eB)
def filtE (l:List ByteArray):List ByteArray:=l.filter neE
def idxE (l:List ByteArray):Int:=idxI l.length (fun j=>decide (l.getD j eB = eB))
structure DelR (xs ys:List ByteArray) (i j:Nat):Prop where
 jn:j≤xs.length
 ij:i < j
 len:ys.length = xs.length
 fro:ys.take i = filtE (xs.take j)
 rest:ys.drop j = xs.drop j
theorem getD_take_succ {l:List ByteArray} {j:Nat} (h:j < l.length):l.take (j + 1) = l.take j ++ [l.getD j eB]:=by
 rw [List.take_add_one,List.getElem?_eq_getElem h]
 simp [List.getD,List.getElem?_eq_getElem h]
theorem filtE_all {l:List ByteArray} (h:∀ j,j < l.length→decide (l.getD j eB = eB) = false):filtE l = l:=by
 rw [filtE,List.filter_eq_self]
 intro a ha
 obtain ⟨j,hj,rfl⟩:=List.getElem_of_mem ha
 have:=h j hj
 simp only [List.getD,List.getElem?_eq_getElem hj,Option.getD_some] at this
 simp [neE,this]
theorem idxE_none {l:List ByteArray} (h:idxE l = -1):filtE l = l:=by
 rcases idxI_cases l.length (fun j=>decide (l.getD j eB = eB)) with ⟨k,_,_,_,e⟩ | ⟨h2,_⟩
 ·rw [idxE,e] at h; omega
 ·exact filtE_all h2
theorem idxE_some {l:List ByteArray} (h:¬ idxE l = -1):0≤idxE l∧idxE l < l.length∧DelR l l (idxE l).toNat ((idxE l).toNat + 1):=by
 rcases idxI_cases l.length (fun j=>decide (l.getD j eB = eB)) with ⟨k,hk,h1,h2,e⟩ | ⟨_,e⟩
 ·have e':idxE l = k:=e
  rw [e']
  refine ⟨by omega,by omega,?_⟩
  rw [Int.toNat_natCast]
  refine ⟨by omega,by omega,rfl,?_,rfl⟩
  have hne:filtE (l.take k) = l.take k:=filtE_all fun j hj=>by
   rw [List.length_take] at hj
   have:=of_decide_eq_false (h2 j (by omega))
   refine decide_eq_false ?_
   simpa [List.getD,List.getElem?_take,show j < k by omega] using this
  have he:filtE [l.getD k eB] = []:=by
   have:l.getD k eB = eB:=of_decide_eq_true h1
   rw [this]; rfl
  rw [getD_take_succ hk]
  rw [filtE,List.filter_append,← filtE,← filtE,hne,he,List.append_nil]
 ·exact absurd e h
theorem DelR.at {xs ys:List ByteArray} {i j:Nat} (h:DelR xs ys i j) (hj:j < xs.length):ys.getD j eB = xs.getD j eB:=by
 have h1:=congrArg (fun l:List ByteArray=>l.getD 0 eB) h.rest
 simpa [List.getD] using h1
theorem DelR.skip {xs ys:List ByteArray} {i j:Nat} (h:DelR xs ys i j) (hj:j < xs.length) (he:ys.getD j eB = eB):DelR xs ys i (j + 1):=by
 refine ⟨by omega,by have:=h.ij; omega,h.len,?_,?_⟩
 ·rw [getD_take_succ hj,← h.at hj,he,filtE,List.filter_append,← filtE,h.fro]
  have:List.filter neE [eB] = []:=rfl
  rw [this,List.append_nil]
 ·have:=congrArg (List.drop 1) h.rest
  simpa [List.drop_drop,Nat.add_comm] using this
theorem DelR.take {xs ys:List ByteArray} {i j:Nat} (h:DelR xs ys i j) (hj:j < xs.length) (he:¬ ys.getD j eB = eB):DelR xs (ys.set i (ys.getD j eB)) (i + 1) (j + 1):=by
 have hi:i < ys.length:=by have:=h.ij; have:=h.len; omega
 refine ⟨by omega,by have:=h.ij; omega,by simp [h.len],?_,?_⟩
 ·rw [getD_take_succ hj,← h.at hj,filtE,List.filter_append,← filtE,← h.fro]
  have e1:List.filter neE [ys.getD j eB] = [ys.getD j eB]:=by simp only [List.filter_cons,List.filter_nil,neE,he,decide_false,Bool.not_false,if_true]
  rw [e1,getD_take_succ (by simpa using hi),List.take_set_of_le (Nat.le_refl _)]
  congr 2
  simp [List.getD,hi]
 ·rw [List.drop_set_of_lt (by have:=h.ij; omega)]
  have:=congrArg (List.drop 1) h.rest
  simpa [List.drop_drop,Nat.add_comm] using this
theorem DelR.fin {xs ys:List ByteArray} {i j:Nat} (h:DelR xs ys i j) (hj:¬ j < xs.length):ys.take i = filtE xs∧i = (filtE xs).length:=by
 have h1:=h.fro
 rw [List.take_of_length_le (show xs.length≤j by omega)] at h1
 refine ⟨h1,?_⟩
 rw [← h1,List.length_take]
 have:=h.ij; have:=h.len; have:=h.jn; omega
inductive Blo (ops E Pa:Nat→Int):Nat→Nat→Int→Prop
 | nil (lo:Nat) (c:Int):Blo ops E Pa lo lo c
 | one (lo m:Nat) (c:Int):Blo ops E Pa lo m c→(ops m < 36∨42 < ops m)→E m = -1→Pa m = c→Blo ops E Pa lo (m + 1) c
 | b1 (lo m k:Nat) (c:Int):Blo ops E Pa lo m c→(ops m = 36∨ops m = 38)→Pa m = c→E m = k→Blo ops E Pa (m + 1) k m→ops k = 42→E k = m→Pa k = c→Blo ops E Pa lo (k + 1) c
 | b2 (lo m k j:Nat) (c:Int):Blo ops E Pa lo m c→(ops m = 36∧ops k = 37∨ops m = 39∧ops k = 40∨ops m = 39∧ops k = 41)→Pa m = c→E m = k→Blo ops E Pa (m + 1) k m→Pa k = c→E k = j→Blo ops E Pa (k + 1) j k→ops j = 42→E j = m→Pa j = c→Blo ops E Pa lo (j + 1) c
 | b3 (lo m k j i:Nat) (c:Int):Blo ops E Pa lo m c→(ops m = 39∧ops k = 40∧ops j = 41)→Pa m = c→E m = k→Blo ops E Pa (m + 1) k m→Pa k = c→E k = j→Blo ops E Pa (k + 1) j k→Pa j = c→E j = i→Blo ops E Pa (j + 1) i j→ops i = 42→E i = m→Pa i = c→Blo ops E Pa lo (i + 1) c
section
variable {ops E Pa:Nat→Int} {lo hi:Nat} {c:Int}
theorem Blo.le (h:Blo ops E Pa lo hi c):lo≤hi:=by
 induction h <;> omega
theorem Blo.f1 (h:Blo ops E Pa lo hi c):c < lo→∀ k:Nat,lo≤k→k < hi→Pa k < k∧c≤Pa k∧E k < hi∧(36≤ops k∧ops k≤42→lo≤E k)∧(ops k < 36∨42 < ops k→E k = -1)∧(36≤ops k∧ops k≤41→(k:Int) < E k):=by
 induction h with
 | nil=>intro _ k h1 h2; omega
 | one lo m c h0 ho hE hP ih =>
  intro hc k h1 h2
  rcases (by omega:k < m∨k = m) with h | rfl
  ·have:=ih hc k h1 h; omega
  ·omega
 | b1 lo m k c h0 ho hP hE h3 hk hEk hPk ih1 ih2 =>
  intro hc x h1 h2
  have l1:=h0.le
  have l2:=h3.le
  rcases (by omega:x < m∨x = m∨(m + 1≤x∧x < k)∨x = k) with h | rfl | h | rfl
  ·have:=ih1 hc x h1 h; omega
  ·omega
  ·have:=ih2 (by omega) x h.1 h.2; omega
  ·omega
 | b2 lo m k j c h0 ho hP hE h3 hPk hEk h4 hj hEj hPj ih1 ih2 ih3 =>
  intro hc x h1 h2
  have l1:=h0.le
  have l2:=h3.le
  have l3:=h4.le
  rcases (by omega:x < m∨x = m∨(m + 1≤x∧x < k)∨x = k∨(k + 1≤x∧x < j)∨x = j) with h | rfl | h | rfl | h | rfl
  ·have:=ih1 hc x h1 h; omega
  ·omega
  ·have:=ih2 (by omega) x h.1 h.2; omega
  ·omega
  ·have:=ih3 (by omega) x h.1 h.2; omega
  ·omega
 | b3 lo m k j i c h0 ho hP hE h3 hPk hEk h4 hPj hEj h5 hi hEi hPi ih1 ih2 ih3 ih4 =>
  intro hc x h1 h2
  have l1:=h0.le
  have l2:=h3.le
  have l3:=h4.le
  have l4:=h5.le
  rcases (by omega:x < m∨x = m∨(m + 1≤x∧x < k)∨x = k∨(k + 1≤x∧x < j)∨x = j∨(j + 1≤x∧x < i)∨x = i) with h | rfl | h | rfl | h | rfl | h | rfl
  ·have:=ih1 hc x h1 h; omega
  ·omega
  ·have:=ih2 (by omega) x h.1 h.2; omega
  ·omega
  ·have:=ih3 (by omega) x h.1 h.2; omega
  ·omega
  ·have:=ih4 (by omega) x h.1 h.2; omega
  ·omega
def dstep (x:Int):Int:=if x = 36∨x = 38∨x = 39 then 1 else if x = 42 then -1 else 0
theorem Blo.deep {D:Nat→Int} (hD:∀ k,D (k + 1) = D k + dstep (ops k)) (h:Blo ops E Pa lo hi c):D hi = D lo∧∀ k:Nat,lo≤k→k≤hi→D lo≤D k:=by
 have op:∀ k,(ops k = 36∨ops k = 38∨ops k = 39)→D (k + 1) = D k + 1:=fun k h=>by rw [hD,dstep,if_pos h]
 have en:∀ k,ops k = 42→D (k + 1) = D k - 1:=fun k h=>by rw [hD,dstep,if_neg (by omega),if_pos h]; omega
 have sa:∀ k,(ops k < 36∨42 < ops k∨ops k = 37∨ops k = 40∨ops k = 41)→D (k + 1) = D k:=fun k h=>by rw [hD,dstep,if_neg (by omega),if_neg (by omega)]; omega
 induction h with
 | nil lo c=>exact ⟨rfl,fun k h1 h2=>by rw [show k = lo by omega]; exact Int.le_refl _⟩
 | one lo m c h0 ho hE hP ih =>
  have l1:=h0.le
  have s1:=sa m (by omega)
  refine ⟨by omega,fun x h1 h2=>?_⟩
  rcases (by omega:x≤m∨x = m + 1) with h | rfl
  ·exact ih.2 x h1 h
  ·omega
 | b1 lo m k c h0 ho hP hE h3 hk hEk hPk ih1 ih2 =>
  have l1:=h0.le
  have l2:=h3.le
  have s1:=op m (by omega)
  have s2:=en k hk
  refine ⟨by omega,fun x h1 h2=>?_⟩
  rcases (by omega:x≤m∨(m + 1≤x∧x≤k)∨x = k + 1) with h | h | rfl
  ·exact ih1.2 x h1 h
  ·have:=ih2.2 x h.1 h.2; omega
  ·omega
 | b2 lo m k j c h0 ho hP hE h3 hPk hEk h4 hj hEj hPj ih1 ih2 ih3 =>
  have l1:=h0.le
  have l2:=h3.le
  have l3:=h4.le
  have s1:=op m (by omega)
  have s2:=sa k (by omega)
  have s3:=en j hj
  refine ⟨by omega,fun x h1 h2=>?_⟩
  rcases (by omega:x≤m∨(m + 1≤x∧x≤k)∨(k + 1≤x∧x≤j)∨x = j + 1) with h | h | h | rfl
  ·exact ih1.2 x h1 h
  ·have:=ih2.2 x h.1 h.2; omega
  ·have:=ih3.2 x h.1 h.2; omega
  ·omega
 | b3 lo m k j i c h0 ho hP hE h3 hPk hEk h4 hPj hEj h5 hi hEi hPi ih1 ih2 ih3 ih4 =>
  have l1:=h0.le
  have l2:=h3.le
  have l3:=h4.le
  have l4:=h5.le
  have s1:=op m (by omega)
  have s2:=sa k (by omega)
  have s3:=sa j (by omega)
  have s4:=en i hi
  refine ⟨by omega,fun x h1 h2=>?_⟩
  rcases (by omega:x≤m∨(m + 1≤x∧x≤k)∨(k + 1≤x∧x≤j)∨(j + 1≤x∧x≤i)∨x = i + 1) with h | h | h | h | rfl
  ·exact ih1.2 x h1 h
  ·have:=ih2.2 x h.1 h.2; omega
  ·have:=ih3.2 x h.1 h.2; omega
  ·have:=ih4.2 x h.1 h.2; omega
  ·omega
def Last (ops E:Nat→Int) (lo k:Nat) (c p:Int):Prop :=
 (∃ x:Nat,lo≤x∧x < k∧ops x ≠ 42∧(k:Int) < E x∧p = x∧∀ y:Nat,x < y→y < k→¬ (ops y ≠ 42∧(k:Int) < E y))∨(p = c∧∀ y:Nat,lo≤y→y < k→¬ (ops y ≠ 42∧(k:Int) < E y))
theorem Last.up {lo m k:Nat} {c p:Int} (h:Last ops E (m + 1) k m p) (h0:lo≤m) (hk:m < k) (h1:ops m ≠ 42) (h2:(k:Int) < E m):Last ops E lo k c p:=by
 rcases h with ⟨x,a1,a2,a3,a4,a5,a6⟩ | ⟨a1,a2⟩
 ·exact .inl ⟨x,by omega,a2,a3,a4,a5,a6⟩
 ·exact .inl ⟨m,h0,hk,h1,h2,a1,fun y b1 b2=>a2 y (by omega) b2⟩
theorem Blo.last (h:Blo ops E Pa lo hi c):c < lo→∀ k:Nat,lo≤k→k < hi→Last ops E lo k c (Pa k):=by
 induction h with
 | nil=>intro _ k h1 h2; omega
 | one lo m c h0 ho hE hP ih =>
  intro hc k h1 h2
  have f0:=h0.f1 hc
  rcases (by omega:k < m∨k = m) with h | rfl
  ·exact ih hc k h1 h
  ·exact .inr ⟨hP,fun y b1 b2=>by have:=f0 y b1 b2; omega⟩
 | b1 lo m k c h0 ho hP hE h3 hk hEk hPk ih1 ih2 =>
  intro hc x h1 h2
  have l1:=h0.le
  have l2:=h3.le
  have f0:=h0.f1 hc
  have f3:=h3.f1 (by omega)
  rcases (by omega:x < m∨x = m∨(m + 1≤x∧x < k)∨x = k) with h | rfl | h | rfl
  ·exact ih1 hc x h1 h
  ·exact .inr ⟨hP,fun y b1 b2=>by have:=f0 y b1 b2; omega⟩
  ·exact (ih2 (by omega) x h.1 h.2).up l1 (by omega) (by omega) (by omega)
  ·refine .inr ⟨hPk,fun y b1 b2=>?_⟩
   rcases (by omega:y < m∨y = m∨(m + 1≤y∧y < x)) with h | rfl | h
   ·have:=f0 y b1 h; omega
   ·omega
   ·have:=f3 y h.1 h.2; omega
 | b2 lo m k j c h0 ho hP hE h3 hPk hEk h4 hj hEj hPj ih1 ih2 ih3 =>
  intro hc x h1 h2
  have l1:=h0.le
  have l2:=h3.le
  have l3:=h4.le
  have f0:=h0.f1 hc
  have f3:=h3.f1 (by omega)
  have f4:=h4.f1 (by omega)
  have key:∀ z:Nat,k≤z→∀ y:Nat,lo≤y→y < k→¬ (ops y ≠ 42∧(z:Int) < E y):=fun z hz y b1 b2=>by
   rcases (by omega:y < m∨y = m∨(m + 1≤y∧y < k)) with h | rfl | h
   ·have:=f0 y b1 h; omega
   ·omega
   ·have:=f3 y h.1 h.2; omega
  rcases (by omega:x < m∨x = m∨(m + 1≤x∧x < k)∨x = k∨(k + 1≤x∧x < j)∨x = j) with h | rfl | h | rfl | h | rfl
  ·exact ih1 hc x h1 h
  ·exact .inr ⟨hP,fun y b1 b2=>by have:=f0 y b1 b2; omega⟩
  ·exact (ih2 (by omega) x h.1 h.2).up l1 (by omega) (by omega) (by omega)
  ·exact .inr ⟨hPk,fun y b1 b2=>key x (Nat.le_refl _) y b1 b2⟩
  ·exact (ih3 (by omega) x h.1 h.2).up (by omega) (by omega) (by omega) (by omega)
  ·refine .inr ⟨hPj,fun y b1 b2=>?_⟩
   rcases (by omega:y < k∨y = k∨(k + 1≤y∧y < x)) with h | rfl | h
   ·exact key x (by omega) y b1 h
   ·omega
   ·have:=f4 y h.1 h.2; omega
 | b3 lo m k j i c h0 ho hP hE h3 hPk hEk h4 hPj hEj h5 hi hEi hPi ih1 ih2 ih3 ih4 =>
  intro hc x h1 h2
  have l1:=h0.le
  have l2:=h3.le
  have l3:=h4.le
  have l4:=h5.le
  have f0:=h0.f1 hc
  have f3:=h3.f1 (by omega)
  have f4:=h4.f1 (by omega)
  have f5:=h5.f1 (by omega)
  have key:∀ z:Nat,k≤z→∀ y:Nat,lo≤y→y < k→¬ (ops y ≠ 42∧(z:Int) < E y):=fun z hz y b1 b2=>by
   rcases (by omega:y < m∨y = m∨(m + 1≤y∧y < k)) with h | rfl | h
   ·have:=f0 y b1 h; omega
   ·omega
   ·have:=f3 y h.1 h.2; omega
  have key2:∀ z:Nat,j≤z→∀ y:Nat,lo≤y→y < j→¬ (ops y ≠ 42∧(z:Int) < E y):=fun z hz y b1 b2=>by
   rcases (by omega:y < k∨y = k∨(k + 1≤y∧y < j)) with h | rfl | h
   ·exact key z (by omega) y b1 h
   ·omega
   ·have:=f4 y h.1 h.2; omega
  rcases (by omega:x < m∨x = m∨(m + 1≤x∧x < k)∨x = k∨(k + 1≤x∧x < j)∨x = j∨(j + 1≤x∧x < i)∨x = i) with h | rfl | h | rfl | h | rfl | h | rfl
  ·exact ih1 hc x h1 h
  ·exact .inr ⟨hP,fun y b1 b2=>by have:=f0 y b1 b2; omega⟩
  ·exact (ih2 (by omega) x h.1 h.2).up l1 (by omega) (by omega) (by omega)
  ·exact .inr ⟨hPk,fun y b1 b2=>key x (Nat.le_refl _) y b1 b2⟩
  ·exact (ih3 (by omega) x h.1 h.2).up (by omega) (by omega) (by omega) (by omega)
  ·exact .inr ⟨hPj,fun y b1 b2=>key2 x (Nat.le_refl _) y b1 b2⟩
  ·exact (ih4 (by omega) x h.1 h.2).up (by omega) (by omega) (by omega) (by omega)
  ·refine .inr ⟨hPi,fun y b1 b2=>?_⟩
   rcases (by omega:y < j∨y = j∨(j + 1≤y∧y < x)) with h | rfl | h
   ·exact key2 x (by omega) y b1 h
   ·omega
   ·have:=f5 y h.1 h.2; omega
end
def At (f:Nat→Int) (n:Nat) (l:List Int):Prop:=∀ i,i < l.length→f (n + i) = l.getD i 0
theorem At.split {f:Nat→Int} {n:Nat} {a b:List Int} (h:At f n (a ++ b)):At f n a∧At f (n + a.length) b:=by
 refine ⟨fun i hi=>?_,fun i hi=>?_⟩
 ·rw [h i (by simp; omega)]
  simp [List.getD,List.getElem?_append_left hi]
 ·rw [Nat.add_assoc,h (a.length + i) (by simp; omega),List.getD,List.getElem?_append_right (by omega),List.getD]
  congr 2; omega
theorem At.one {f:Nat→Int} {n:Nat} {x:Int} (h:At f n [x]):f n = x:=by simpa using h 0 (by simp)
def runB (xs:List Ln) (s:BS):BS:=xs.foldl (fun s x=>stepB x.op s) s
theorem runB_append {xs ys:List Ln} {s:BS}:runB (xs ++ ys) s = runB ys (runB xs s):=by simp [runB]
theorem runB_one {x:Ln} {s:BS}:runB [x] s = stepB x.op s:=rfl
def StepOK (ops:Nat→Int) (s:BS) (op:Int):Prop:=midB op = true∨op = 42→∃ (f c:Nat),s.o ≠ []∧topB s = ((f:Int),(c:Int))∧f < s.e.length∧c < s.e.length∧folB op (ops c) = true
def AllOK (ops:Nat→Int):List Ln→BS→Prop
 | [],_=>True
 | x :: xs,s=>StepOK ops s x.op∧AllOK ops xs (stepB x.op s)
theorem AllOK.append {ops:Nat→Int}:∀ {xs ys:List Ln} {s:BS},AllOK ops xs s→AllOK ops ys (runB xs s)→AllOK ops (xs ++ ys) s
 | [],ys,s,_,h=>h
 | x :: xs,ys,s,h,k=>⟨h.1,AllOK.append (xs:=xs) h.2 k⟩
theorem AllOK.at {ops:Nat→Int}:∀ {xs:List Ln} {s:BS},AllOK ops xs s→∀ (d:Ln) k,k < xs.length→StepOK ops (runB (xs.take k) s) (xs.getD k d).op
 | [],s,_,d,k,h=>by simp at h
 | x :: xs,s,h,d,0,_=>by simpa [runB] using h.1
 | x :: xs,s,h,d,k + 1,hk=>by
  have:=AllOK.at (xs:=xs) h.2 d k (by simpa using hk)
  simpa [runB] using this
def Fit (ops:Nat→Int) (xs:List Ln):Prop:=∀ (s:BS) (n:Nat),s.e.length = n→s.p.length = n→At ops n (xs.map (·.op)) →
 ∃ es ps:List Int,es.length = xs.length∧ps.length = xs.length∧runB xs s = ⟨s.e ++ es,s.p ++ ps,s.o⟩∧AllOK ops xs s∧∀ E Pa:Nat→Int,At E n es→At Pa n ps→Blo ops E Pa n (n + xs.length) (topB s).2
theorem setAt {α:Type} {A B:List α} {x v:α} {n:Nat} (h:n = A.length):(A ++ x :: B).set n v = A ++ v :: B:=by
 subst h; simp
theorem getAt {α:Type} {A B:List α} {x d:α} {n:Nat} (h:n = A.length):(A ++ x :: B).getD n d = x:=by
 subst h; simp [List.getD]
section
variable {ops:Nat→Int} {s:BS} {op:Int}
theorem step_plain (h:op < 36∨42 < op):stepB op s = ⟨s.e ++ [-1],s.p ++ [(topB s).2],s.o⟩:=by
 have a:opB op = false:=by simp [opB]; omega
 have b:midB op = false:=by simp [midB]; omega
 have c:¬ op = 42:=by omega
 simp [stepB,a,b,c]
theorem step_open (h:op = 36∨op = 38∨op = 39):stepB op s = ⟨s.e ++ [-1],s.p ++ [(topB s).2],s.o ++ [((s.e.length:Int),(s.e.length:Int))]⟩:=by
 have a:opB op = true:=by simp [opB]; omega
 simp [stepB,a]
theorem step_mid {o:List (Int × Int)} {m q:Nat} (h:op = 37∨op = 40∨op = 41) (ho:s.o = o ++ [((m:Int),(q:Int))]):stepB op s = ⟨(s.e ++ [-1]).set q s.e.length,s.p ++ [s.p.getD m 0],o ++ [((m:Int),(s.e.length:Int))]⟩:=by
 have a:opB op = false:=by simp [opB]; omega
 have b:midB op = true:=by simp [midB]; omega
 simp [stepB,a,b,topB,ho]
theorem step_end {o:List (Int × Int)} {m q:Nat} (h:op = 42) (ho:s.o = o ++ [((m:Int),(q:Int))]):stepB op s = ⟨s.e.set q s.e.length ++ [(m:Int)],s.p ++ [s.p.getD m 0],o⟩:=by
 subst h
 simp [stepB,opB,midB,topB,ho]
theorem ok_plain (h:op < 36∨42 < op):StepOK ops s op:=fun k=>by
 rcases k with k | k
 ·simp [midB] at k; omega
 ·omega
theorem ok_open (h:op = 36∨op = 38∨op = 39):StepOK ops s op:=fun k=>by
 rcases k with k | k
 ·simp [midB] at k; omega
 ·omega
theorem ok_top {o:List (Int × Int)} {m q:Nat} (ho:s.o = o ++ [((m:Int),(q:Int))]) (hm:m < s.e.length) (hq:q < s.e.length) (hf:folB op (ops q) = true):StepOK ops s op:=fun _=>⟨m,q,by simp [ho],by simp [topB,ho],hm,hq,hf⟩
theorem Fit.nil:Fit ops []:=fun s n h1 h2 ha=>⟨[],[],rfl,rfl,by simp [runB],trivial,fun E Pa _ _=>.nil _ _⟩
theorem Fit.one {xs:List Ln} (hx:Fit ops xs) (y:Ln) (hy:y.op < 36∨42 < y.op):Fit ops (xs ++ [y]):=fun s n h1 h2 ha=>by
 rw [List.map_append] at ha
 obtain ⟨ha1,ha2⟩:=ha.split
 obtain ⟨es,ps,l1,l2,hr,hk,hb⟩:=hx s n h1 h2 ha1
 have hy':=At.one ha2
 simp only [List.length_map] at hy'
 refine ⟨es ++ [-1],ps ++ [(topB s).2],by simp [l1],by simp [l2],?_,AllOK.append hk ⟨ok_plain hy,trivial⟩,fun E Pa hE hP=>?_⟩
 ·rw [runB_append,hr,runB_one,step_plain hy]; simp [topB]
 ·obtain ⟨e1,e2⟩:=hE.split
  obtain ⟨p1,p2⟩:=hP.split
  have e2:=At.one e2
  have p2:=At.one p2
  rw [l1] at e2; rw [l2] at p2
  have:=Blo.one n (n + xs.length) _ (hb E Pa e1 p1) (by rw [hy']; exact hy) e2 p2
  simpa [Nat.add_assoc] using this
theorem Fit.b1 {xs ys:List Ln} (hx:Fit ops xs) (hy:Fit ops ys) (y0 y1:Ln) (h0:y0.op = 36∨y0.op = 38) (h1:y1.op = 42):Fit ops (xs ++ ([y0] ++ (ys ++ [y1]))):=fun s n k1 k2 ha=>by
 simp only [List.map_append] at ha
 obtain ⟨ha1,ha⟩:=ha.split
 obtain ⟨ha2,ha⟩:=ha.split
 obtain ⟨ha3,ha4⟩:=ha.split
 simp only [List.length_map,List.map_cons,List.map_nil,List.length_cons,List.length_nil,Nat.zero_add] at ha2 ha3 ha4
 obtain ⟨es,ps,l1,l2,hr,hk,hb⟩:=hx s n k1 k2 ha1
 have o0:=At.one ha2
 have o1:=At.one ha4
 have hop:stepB y0.op ⟨s.e ++ es,s.p ++ ps,s.o⟩ = ⟨(s.e ++ es) ++ [-1],(s.p ++ ps) ++ [(topB s).2],s.o ++ [(((n + xs.length:Nat):Int),((n + xs.length:Nat):Int))]⟩:=by
  rw [step_open (by omega)]
  simp [topB,k1,l1]
 obtain ⟨fs,qs,l3,l4,hr2,hk2,hb2⟩:=hy ⟨(s.e ++ es) ++ [-1],(s.p ++ ps) ++ [(topB s).2],s.o ++ [(((n + xs.length:Nat):Int),((n + xs.length:Nat):Int))]⟩ (n + xs.length + 1) (by simp [k1,l1]; omega) (by simp [k2,l2]; omega) ha3
 have hl:((s.e ++ es ++ [-1]) ++ fs).length = n + xs.length + 1 + ys.length:=by simp [k1,l1,l3]; omega
 have hend:stepB y1.op ⟨(s.e ++ es ++ [-1]) ++ fs,(s.p ++ ps ++ [(topB s).2]) ++ qs,s.o ++ [(((n + xs.length:Nat):Int),((n + xs.length:Nat):Int))]⟩ = ⟨(s.e ++ es) ++ ((n + xs.length + 1 + ys.length:Nat):Int) :: fs ++ [((n + xs.length:Nat):Int)],(s.p ++ ps ++ [(topB s).2]) ++ qs ++ [(topB s).2],s.o⟩:=by
  rw [step_end h1 rfl]
  dsimp only
  rw [hl]
  congr 1
  ·congr 1
   rw [show (s.e ++ es ++ [-1]) ++ fs = (s.e ++ es) ++ (-1 :: fs) by simp]
   exact setAt (by simp [k1,l1])
  ·congr 2
   rw [show (s.p ++ ps ++ [(topB s).2]) ++ qs = (s.p ++ ps) ++ ((topB s).2 :: qs) by simp]
   exact getAt (by simp [k2,l2])
 refine ⟨es ++ ([((n + xs.length + 1 + ys.length:Nat):Int)] ++ (fs ++ [((n + xs.length:Nat):Int)])),ps ++ ([(topB s).2] ++ (qs ++ [(topB s).2])),by simp [l1,l3],by simp [l2,l4],?_,?_,fun E Pa hE hP=>?_⟩
 ·rw [runB_append,hr,runB_append,runB_one,hop,runB_append,hr2,runB_one,hend]; simp
 ·refine AllOK.append hk ?_
  rw [hr]
  refine ⟨ok_open (by omega),?_⟩
  rw [hop]
  show AllOK ops (ys ++ [y1]) _
  refine AllOK.append hk2 ?_
  rw [hr2]
  refine ⟨ok_top rfl (by dsimp only; omega) (by dsimp only; omega) ?_,trivial⟩
  rw [o0,h1]
  rcases h0 with h0 | h0 <;> rw [h0] <;> rfl
 ·obtain ⟨e1,hE⟩:=hE.split
  obtain ⟨e2,hE⟩:=hE.split
  obtain ⟨e3,e4⟩:=hE.split
  obtain ⟨p1,hP⟩:=hP.split
  obtain ⟨p2,hP⟩:=hP.split
  obtain ⟨p3,p4⟩:=hP.split
  simp only [List.length_cons,List.length_nil,Nat.zero_add,l1,l2,l3,l4] at e2 e3 e4 p2 p3 p4
  have:=Blo.b1 n (n + xs.length) (n + xs.length + 1 + ys.length) _ (hb E Pa e1 p1) (by rw [o0]; exact h0) (At.one p2) (At.one e2) (by have:=hb2 E Pa e3 p3; simpa [topB] using this) (by rw [o1]; exact h1) (At.one e4) (At.one p4)
  have e:n + (xs ++ ([y0] ++ (ys ++ [y1]))).length = n + xs.length + 1 + ys.length + 1:=by simp; omega
  rw [e]; exact this
theorem Fit.b2 {xs ys us:List Ln} (hx:Fit ops xs) (hys:Fit ops ys) (hus:Fit ops us) (y0 y1 y2:Ln) (h0:y0.op = 36∧y1.op = 37∨y0.op = 39∧y1.op = 40∨y0.op = 39∧y1.op = 41) (hE:y2.op = 42):Fit ops (xs ++ ([y0] ++ (ys ++ ([y1] ++ (us ++ [y2]))))):=fun s n k1 k2 ha=>by
 simp only [List.map_append] at ha
 obtain ⟨ha0,ha⟩:=ha.split
 obtain ⟨hb0,ha⟩:=ha.split
 obtain ⟨ha1,ha⟩:=ha.split
 obtain ⟨hb1,ha⟩:=ha.split
 obtain ⟨ha2,hb2⟩:=ha.split
 simp only [List.length_map,List.map_cons,List.map_nil,List.length_cons,List.length_nil,Nat.zero_add] at ha1 ha2 hb0 hb1 hb2
 obtain ⟨es,ps,l0,r0,hr,hk,hb⟩:=hx s n k1 k2 ha0
 have o0:=At.one hb0
 have o1:=At.one hb1
 have o2:=At.one hb2
 obtain ⟨m0,e0⟩:∃ m,m = n + xs.length:=⟨_,rfl⟩
 obtain ⟨m1,e1⟩:∃ m,m = m0 + 1 + ys.length:=⟨_,rfl⟩
 obtain ⟨m2,e2⟩:∃ m,m = m1 + 1 + us.length:=⟨_,rfl⟩
 simp only [← e0] at hb0 ha1 hb1 ha2 hb2 o0 o1 o2
 simp only [← e1] at hb1 o1 ha2 hb2 o2
 simp only [← e2] at hb2 o2
 have s0:stepB y0.op ⟨s.e ++ es,s.p ++ ps,s.o⟩ = ⟨((s.e ++ es) ++ [-1]),((s.p ++ ps) ++ [(topB s).2]),(s.o ++ [(((m0:Nat):Int),((m0:Nat):Int))])⟩:=by
  rw [step_open (by omega)]
  simp [topB,k1,l0,e0]
 obtain ⟨f0,q0,l1,r1,t0,u0,b0⟩:=hys ⟨((s.e ++ es) ++ [-1]),((s.p ++ ps) ++ [(topB s).2]),(s.o ++ [(((m0:Nat):Int),((m0:Nat):Int))])⟩ (m0 + 1) (by simp [k1,k2,l0,r0]; omega) (by simp [k1,k2,l0,r0]; omega) ha1
 have hl0:(((s.e ++ es) ++ [-1]) ++ f0).length = m1:=by simp [k1,k2,l0,r0,l1,r1]; omega
 have s1:stepB y1.op ⟨(((s.e ++ es) ++ [-1]) ++ f0),(((s.p ++ ps) ++ [(topB s).2]) ++ q0),(s.o ++ [(((m0:Nat):Int),((m0:Nat):Int))])⟩ = ⟨((((s.e ++ es) ++ [((m1:Nat):Int)]) ++ f0) ++ [-1]),((((s.p ++ ps) ++ [(topB s).2]) ++ q0) ++ [(topB s).2]),(s.o ++ [(((m0:Nat):Int),((m1:Nat):Int))])⟩:=by
  rw [step_mid (by omega) rfl]
  dsimp only
  rw [hl0]
  congr 1
  ·skip
   rw [show (((s.e ++ es) ++ [-1]) ++ f0) ++ [-1] = (s.e ++ es) ++ (-1 :: (f0 ++ [-1])) by simp]
   exact (setAt (by simp [k1,k2,l0,r0,l1,r1]; omega)).trans (by simp)
  ·congr 2
   rw [show (((s.p ++ ps) ++ [(topB s).2]) ++ q0) = (s.p ++ ps) ++ ((topB s).2 :: q0) by simp]
   exact getAt (by simp [k1,k2,l0,r0,l1,r1]; omega)
 obtain ⟨f1,q1,l2,r2,t1,u1,b1⟩:=hus ⟨((((s.e ++ es) ++ [((m1:Nat):Int)]) ++ f0) ++ [-1]),((((s.p ++ ps) ++ [(topB s).2]) ++ q0) ++ [(topB s).2]),(s.o ++ [(((m0:Nat):Int),((m1:Nat):Int))])⟩ (m1 + 1) (by simp [k1,k2,l0,r0,l1,r1]; omega) (by simp [k1,k2,l0,r0,l1,r1]; omega) ha2
 have hl1:(((((s.e ++ es) ++ [((m1:Nat):Int)]) ++ f0) ++ [-1]) ++ f1).length = m2:=by simp [k1,k2,l0,r0,l1,r1,l2,r2]; omega
 have s2:stepB y2.op ⟨(((((s.e ++ es) ++ [((m1:Nat):Int)]) ++ f0) ++ [-1]) ++ f1),(((((s.p ++ ps) ++ [(topB s).2]) ++ q0) ++ [(topB s).2]) ++ q1),(s.o ++ [(((m0:Nat):Int),((m1:Nat):Int))])⟩ = ⟨(((((s.e ++ es) ++ [((m1:Nat):Int)]) ++ f0) ++ [((m2:Nat):Int)]) ++ f1) ++ [((m0:Nat):Int)],(((((s.p ++ ps) ++ [(topB s).2]) ++ q0) ++ [(topB s).2]) ++ q1) ++ [(topB s).2],s.o⟩:=by
  rw [step_end hE rfl]
  dsimp only
  rw [hl1]
  congr 1
  ·congr 1
   rw [show (((((s.e ++ es) ++ [((m1:Nat):Int)]) ++ f0) ++ [-1]) ++ f1) = (((s.e ++ es) ++ [((m1:Nat):Int)]) ++ f0) ++ (-1 :: f1) by simp]
   exact (setAt (by simp [k1,k2,l0,r0,l1,r1,l2,r2]; omega)).trans (by simp)
  ·congr 2
   rw [show (((((s.p ++ ps) ++ [(topB s).2]) ++ q0) ++ [(topB s).2]) ++ q1) = (s.p ++ ps) ++ ((topB s).2 :: (q0 ++ [(topB s).2] ++ q1)) by simp]
   exact getAt (by simp [k1,k2,l0,r0,l1,r1,l2,r2]; omega)
 refine ⟨es ++ ([((m1:Nat):Int)] ++ (f0 ++ ([((m2:Nat):Int)] ++ (f1 ++ [((m0:Nat):Int)])))),ps ++ ([(topB s).2] ++ (q0 ++ ([(topB s).2] ++ (q1 ++ [(topB s).2])))),by simp [k1,k2,l0,r0,l1,r1,l2,r2],by simp [k1,k2,l0,r0,l1,r1,l2,r2],?_,?_,fun E Pa hE' hP=>?_⟩
 ·rw [runB_append,hr,runB_append,runB_one,s0,runB_append,t0,runB_append,runB_one,s1,runB_append,t1,runB_one,s2]; simp
 ·refine AllOK.append hk ?_
  rw [hr]
  refine ⟨ok_open (by omega),?_⟩
  rw [s0]
  show AllOK ops (ys ++ ([y1] ++ (us ++ [y2]))) _
  refine AllOK.append u0 ?_
  rw [t0]
  refine ⟨ok_top rfl (by dsimp only; omega) (by dsimp only; omega) ?_,?_⟩
  ·rw [o0]
   rcases h0 with h0 | h0 | h0 <;> rw [h0.1,h0.2] <;> rfl
  rw [s1]
  show AllOK ops (us ++ [y2]) _
  refine AllOK.append u1 ?_
  rw [t1]
  refine ⟨ok_top rfl (by dsimp only; omega) (by dsimp only; omega) ?_,trivial⟩
  ·rw [o1]
   rw [hE]
   rcases h0 with h0 | h0 | h0 <;> rw [h0.2] <;> rfl
 ·obtain ⟨ge,hE'⟩:=hE'.split
  obtain ⟨gp,hP⟩:=hP.split
  obtain ⟨x0,hE'⟩:=hE'.split
  obtain ⟨z0,hP⟩:=hP.split
  obtain ⟨g0,hE'⟩:=hE'.split
  obtain ⟨j0,hP⟩:=hP.split
  obtain ⟨x1,hE'⟩:=hE'.split
  obtain ⟨z1,hP⟩:=hP.split
  obtain ⟨g1,x2⟩:=hE'.split
  obtain ⟨j1,z2⟩:=hP.split
  simp only [List.length_cons,List.length_nil,Nat.zero_add,l0,r0,l1,r1,l2,r2,← e0] at x0 z0 x1 z1 x2 z2 g0 j0 g1 j1
  simp only [← e1] at x1 z1 g1 j1 x2 z2
  simp only [← e2] at x2 z2
  have w0:=b0 E Pa g0 j0
  simp only [← e1] at w0
  replace w0:Blo ops E Pa (m0 + 1) m1 m0:=by simpa [topB] using w0
  have w1:=b1 E Pa g1 j1
  simp only [← e2] at w1
  replace w1:Blo ops E Pa (m1 + 1) m2 m1:=by simpa [topB] using w1
  have w:=hb E Pa ge gp
  rw [← e0] at w
  have e:n + (xs ++ ([y0] ++ (ys ++ ([y1] ++ (us ++ [y2]))))).length = m2 + 1:=by simp; omega
  rw [e]; exact Blo.b2 _ _ _ _ _ w (by rw [o0,o1]; exact h0) (At.one z0) (At.one x0) w0 (At.one z1) (At.one x1) w1 (o2.trans hE) (At.one x2) (At.one z2)
theorem Fit.b3 {xs ys us vs:List Ln} (hx:Fit ops xs) (hys:Fit ops ys) (hus:Fit ops us) (hvs:Fit ops vs) (y0 y1 y2 y3:Ln) (h0:y0.op = 39∧y1.op = 40∧y2.op = 41) (hE:y3.op = 42):Fit ops (xs ++ ([y0] ++ (ys ++ ([y1] ++ (us ++ ([y2] ++ (vs ++ [y3]))))))):=fun s n k1 k2 ha=>by
 simp only [List.map_append] at ha
 obtain ⟨ha0,ha⟩:=ha.split
 obtain ⟨hb0,ha⟩:=ha.split
 obtain ⟨ha1,ha⟩:=ha.split
 obtain ⟨hb1,ha⟩:=ha.split
 obtain ⟨ha2,ha⟩:=ha.split
 obtain ⟨hb2,ha⟩:=ha.split
 obtain ⟨ha3,hb3⟩:=ha.split
 simp only [List.length_map,List.map_cons,List.map_nil,List.length_cons,List.length_nil,Nat.zero_add] at ha1 ha2 ha3 hb0 hb1 hb2 hb3
 obtain ⟨es,ps,l0,r0,hr,hk,hb⟩:=hx s n k1 k2 ha0
 have o0:=At.one hb0
 have o1:=At.one hb1
 have o2:=At.one hb2
 have o3:=At.one hb3
 obtain ⟨m0,e0⟩:∃ m,m = n + xs.length:=⟨_,rfl⟩
 obtain ⟨m1,e1⟩:∃ m,m = m0 + 1 + ys.length:=⟨_,rfl⟩
 obtain ⟨m2,e2⟩:∃ m,m = m1 + 1 + us.length:=⟨_,rfl⟩
 obtain ⟨m3,e3⟩:∃ m,m = m2 + 1 + vs.length:=⟨_,rfl⟩
 simp only [← e0] at hb0 ha1 hb1 ha2 hb2 ha3 hb3 o0 o1 o2 o3
 simp only [← e1] at hb1 o1 ha2 hb2 o2 ha3 hb3 o3
 simp only [← e2] at hb2 o2 ha3 hb3 o3
 simp only [← e3] at hb3 o3
 have s0:stepB y0.op ⟨s.e ++ es,s.p ++ ps,s.o⟩ = ⟨((s.e ++ es) ++ [-1]),((s.p ++ ps) ++ [(topB s).2]),(s.o ++ [(((m0:Nat):Int),((m0:Nat):Int))])⟩:=by
  rw [step_open (by omega)]
  simp [topB,k1,l0,e0]
 obtain ⟨f0,q0,l1,r1,t0,u0,b0⟩:=hys ⟨((s.e ++ es) ++ [-1]),((s.p ++ ps) ++ [(topB s).2]),(s.o ++ [(((m0:Nat):Int),((m0:Nat):Int))])⟩ (m0 + 1) (by simp [k1,k2,l0,r0]; omega) (by simp [k1,k2,l0,r0]; omega) ha1
 have hl0:(((s.e ++ es) ++ [-1]) ++ f0).length = m1:=by simp [k1,k2,l0,r0,l1,r1]; omega
 have s1:stepB y1.op ⟨(((s.e ++ es) ++ [-1]) ++ f0),(((s.p ++ ps) ++ [(topB s).2]) ++ q0),(s.o ++ [(((m0:Nat):Int),((m0:Nat):Int))])⟩ = ⟨((((s.e ++ es) ++ [((m1:Nat):Int)]) ++ f0) ++ [-1]),((((s.p ++ ps) ++ [(topB s).2]) ++ q0) ++ [(topB s).2]),(s.o ++ [(((m0:Nat):Int),((m1:Nat):Int))])⟩:=by
  rw [step_mid (by omega) rfl]
  dsimp only
  rw [hl0]
  congr 1
  ·skip
   rw [show (((s.e ++ es) ++ [-1]) ++ f0) ++ [-1] = (s.e ++ es) ++ (-1 :: (f0 ++ [-1])) by simp]
   exact (setAt (by simp [k1,k2,l0,r0,l1,r1]; omega)).trans (by simp)
  ·congr 2
   rw [show (((s.p ++ ps) ++ [(topB s).2]) ++ q0) = (s.p ++ ps) ++ ((topB s).2 :: q0) by simp]
   exact getAt (by simp [k1,k2,l0,r0,l1,r1]; omega)
 obtain ⟨f1,q1,l2,r2,t1,u1,b1⟩:=hus ⟨((((s.e ++ es) ++ [((m1:Nat):Int)]) ++ f0) ++ [-1]),((((s.p ++ ps) ++ [(topB s).2]) ++ q0) ++ [(topB s).2]),(s.o ++ [(((m0:Nat):Int),((m1:Nat):Int))])⟩ (m1 + 1) (by simp [k1,k2,l0,r0,l1,r1]; omega) (by simp [k1,k2,l0,r0,l1,r1]; omega) ha2
 have hl1:(((((s.e ++ es) ++ [((m1:Nat):Int)]) ++ f0) ++ [-1]) ++ f1).length = m2:=by simp [k1,k2,l0,r0,l1,r1,l2,r2]; omega
 have s2:stepB y2.op ⟨(((((s.e ++ es) ++ [((m1:Nat):Int)]) ++ f0) ++ [-1]) ++ f1),(((((s.p ++ ps) ++ [(topB s).2]) ++ q0) ++ [(topB s).2]) ++ q1),(s.o ++ [(((m0:Nat):Int),((m1:Nat):Int))])⟩ = ⟨((((((s.e ++ es) ++ [((m1:Nat):Int)]) ++ f0) ++ [((m2:Nat):Int)]) ++ f1) ++ [-1]),((((((s.p ++ ps) ++ [(topB s).2]) ++ q0) ++ [(topB s).2]) ++ q1) ++ [(topB s).2]),(s.o ++ [(((m0:Nat):Int),((m2:Nat):Int))])⟩:=by
  rw [step_mid (by omega) rfl]
  dsimp only
  rw [hl1]
  congr 1
  ·skip
   rw [show (((((s.e ++ es) ++ [((m1:Nat):Int)]) ++ f0) ++ [-1]) ++ f1) ++ [-1] = (((s.e ++ es) ++ [((m1:Nat):Int)]) ++ f0) ++ (-1 :: (f1 ++ [-1])) by simp]
   exact (setAt (by simp [k1,k2,l0,r0,l1,r1,l2,r2]; omega)).trans (by simp)
  ·congr 2
   rw [show (((((s.p ++ ps) ++ [(topB s).2]) ++ q0) ++ [(topB s).2]) ++ q1) = (s.p ++ ps) ++ ((topB s).2 :: (q0 ++ [(topB s).2] ++ q1)) by simp]
   exact getAt (by simp [k1,k2,l0,r0,l1,r1,l2,r2]; omega)
 obtain ⟨f2,q2,l3,r3,t2,u2,b2⟩:=hvs ⟨((((((s.e ++ es) ++ [((m1:Nat):Int)]) ++ f0) ++ [((m2:Nat):Int)]) ++ f1) ++ [-1]),((((((s.p ++ ps) ++ [(topB s).2]) ++ q0) ++ [(topB s).2]) ++ q1) ++ [(topB s).2]),(s.o ++ [(((m0:Nat):Int),((m2:Nat):Int))])⟩ (m2 + 1) (by simp [k1,k2,l0,r0,l1,r1,l2,r2]; omega) (by simp [k1,k2,l0,r0,l1,r1,l2,r2]; omega) ha3
 have hl2:(((((((s.e ++ es) ++ [((m1:Nat):Int)]) ++ f0) ++ [((m2:Nat):Int)]) ++ f1) ++ [-1]) ++ f2).length = m3:=by simp [k1,k2,l0,r0,l1,r1,l2,r2,l3,r3]; omega
 have s3:stepB y3.op ⟨(((((((s.e ++ es) ++ [((m1:Nat):Int)]) ++ f0) ++ [((m2:Nat):Int)]) ++ f1) ++ [-1]) ++ f2),(((((((s.p ++ ps) ++ [(topB s).2]) ++ q0) ++ [(topB s).2]) ++ q1) ++ [(topB s).2]) ++ q2),(s.o ++ [(((m0:Nat):Int),((m2:Nat):Int))])⟩ = ⟨(((((((s.e ++ es) ++ [((m1:Nat):Int)]) ++ f0) ++ [((m2:Nat):Int)]) ++ f1) ++ [((m3:Nat):Int)]) ++ f2) ++ [((m0:Nat):Int)],(((((((s.p ++ ps) ++ [(topB s).2]) ++ q0) ++ [(topB s).2]) ++ q1) ++ [(topB s).2]) ++ q2) ++ [(topB s).2],s.o⟩:=by
  rw [step_end hE rfl]
  dsimp only
  rw [hl2]
  congr 1
  ·congr 1
   rw [show (((((((s.e ++ es) ++ [((m1:Nat):Int)]) ++ f0) ++ [((m2:Nat):Int)]) ++ f1) ++ [-1]) ++ f2) = (((((s.e ++ es) ++ [((m1:Nat):Int)]) ++ f0) ++ [((m2:Nat):Int)]) ++ f1) ++ (-1 :: f2) by simp]
   exact (setAt (by simp [k1,k2,l0,r0,l1,r1,l2,r2,l3,r3]; omega)).trans (by simp)
  ·congr 2
   rw [show (((((((s.p ++ ps) ++ [(topB s).2]) ++ q0) ++ [(topB s).2]) ++ q1) ++ [(topB s).2]) ++ q2) = (s.p ++ ps) ++ ((topB s).2 :: (q0 ++ [(topB s).2] ++ q1 ++ [(topB s).2] ++ q2)) by simp]
   exact getAt (by simp [k1,k2,l0,r0,l1,r1,l2,r2,l3,r3]; omega)
 refine ⟨es ++ ([((m1:Nat):Int)] ++ (f0 ++ ([((m2:Nat):Int)] ++ (f1 ++ ([((m3:Nat):Int)] ++ (f2 ++ [((m0:Nat):Int)])))))),ps ++ ([(topB s).2] ++ (q0 ++ ([(topB s).2] ++ (q1 ++ ([(topB s).2] ++ (q2 ++ [(topB s).2])))))),by simp [k1,k2,l0,r0,l1,r1,l2,r2,l3,r3],by simp [k1,k2,l0,r0,l1,r1,l2,r2,l3,r3],?_,?_,fun E Pa hE' hP=>?_⟩
 ·rw [runB_append,hr,runB_append,runB_one,s0,runB_append,t0,runB_append,runB_one,s1,runB_append,t1,runB_append,runB_one,s2,runB_append,t2,runB_one,s3]; simp
 ·refine AllOK.append hk ?_
  rw [hr]
  refine ⟨ok_open (by omega),?_⟩
  rw [s0]
  show AllOK ops (ys ++ ([y1] ++ (us ++ ([y2] ++ (vs ++ [y3]))))) _
  refine AllOK.append u0 ?_
  rw [t0]
  refine ⟨ok_top rfl (by dsimp only; omega) (by dsimp only; omega) ?_,?_⟩
  ·rw [o0]
   rw [h0.1,h0.2.1]; rfl
  rw [s1]
  show AllOK ops (us ++ ([y2] ++ (vs ++ [y3]))) _
  refine AllOK.append u1 ?_
  rw [t1]
  refine ⟨ok_top rfl (by dsimp only; omega) (by dsimp only; omega) ?_,?_⟩
  ·rw [o1]
   rw [h0.2.1,h0.2.2]; rfl
  rw [s2]
  show AllOK ops (vs ++ [y3]) _
  refine AllOK.append u2 ?_
  rw [t2]
  refine ⟨ok_top rfl (by dsimp only; omega) (by dsimp only; omega) ?_,trivial⟩
  ·rw [o2]
   rw [h0.2.2,hE]; rfl
 ·obtain ⟨ge,hE'⟩:=hE'.split
  obtain ⟨gp,hP⟩:=hP.split
  obtain ⟨x0,hE'⟩:=hE'.split
  obtain ⟨z0,hP⟩:=hP.split
  obtain ⟨g0,hE'⟩:=hE'.split
  obtain ⟨j0,hP⟩:=hP.split
  obtain ⟨x1,hE'⟩:=hE'.split
  obtain ⟨z1,hP⟩:=hP.split
  obtain ⟨g1,hE'⟩:=hE'.split
  obtain ⟨j1,hP⟩:=hP.split
  obtain ⟨x2,hE'⟩:=hE'.split
  obtain ⟨z2,hP⟩:=hP.split
  obtain ⟨g2,x3⟩:=hE'.split
  obtain ⟨j2,z3⟩:=hP.split
  simp only [List.length_cons,List.length_nil,Nat.zero_add,l0,r0,l1,r1,l2,r2,l3,r3,← e0] at x0 z0 x1 z1 x2 z2 x3 z3 g0 j0 g1 j1 g2 j2
  simp only [← e1] at x1 z1 g1 j1 x2 z2 g2 j2 x3 z3
  simp only [← e2] at x2 z2 g2 j2 x3 z3
  simp only [← e3] at x3 z3
  have w0:=b0 E Pa g0 j0
  simp only [← e1] at w0
  replace w0:Blo ops E Pa (m0 + 1) m1 m0:=by simpa [topB] using w0
  have w1:=b1 E Pa g1 j1
  simp only [← e2] at w1
  replace w1:Blo ops E Pa (m1 + 1) m2 m1:=by simpa [topB] using w1
  have w2:=b2 E Pa g2 j2
  simp only [← e3] at w2
  replace w2:Blo ops E Pa (m2 + 1) m3 m2:=by simpa [topB] using w2
  have w:=hb E Pa ge gp
  rw [← e0] at w
  have e:n + (xs ++ ([y0] ++ (ys ++ ([y1] ++ (us ++ ([y2] ++ (vs ++ [y3]))))))).length = m3 + 1:=by simp; omega
  rw [e]; exact Blo.b3 _ _ _ _ _ _ w (by rw [o0,o1,o2]; exact h0) (At.one z0) (At.one x0) w0 (At.one z1) (At.one x1) w1 (At.one z2) (At.one x2) w2 (o3.trans hE) (At.one x3) (At.one z3)
end
end Go.SL
