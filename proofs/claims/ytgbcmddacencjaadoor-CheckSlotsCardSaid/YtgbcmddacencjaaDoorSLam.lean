import Derived.Below
import Derived.Lib.LaidTab
import Derived.Lib.ItoaNum
import Derived.Laws.Rows
import Derived.Laws.Cells
import Derived.Laws.Sem
import Derived.Laws.CopyRow
import Derived.Laws.AppendOwn
import Derived.Laws.Strings
import Derived.Laws.Entries
set_option linter.unusedSimpArgs false
set_option linter.unusedVariables false
namespace Go.SL
open Go.RowKit
inductive AV:Type where
 | any
 | bool (b:Bool)
 | int (k:IntKind) (n:Int)
 | str (s:ByteArray)
 | nilp | nilSlice | nilMap | nilFunc | nilIface
 | ptr (l off:Nat)
 | slice (l off len sz:Nat)
 | map (l:Nat)
 | list (sz:Nat) (xs:List (List AV))
 | lst (sz n:Nat) (f:Nat→List AV)
 | ref (cs:List AV) (off:Nat)
 | func (fn:Fn) (first captured:List AV)
 | iface (t:TypeId) (v:AV)
 | agg (cs:List AV)
 | tuple (vs:List AV)
structure Pl where
 block:Nat
 base:Nat
 kn:Nat
 lim:Nat
structure G where
 μ:Nat→Option (Option Pl)
 I:Nat→Nat→Option Value
def G.le (g h:G):Prop:=(∀ l d,g.μ l = some d→h.μ l = some d)∧(∀ b o x,g.I b o = some x→h.I b o = some x)
theorem G.le_refl (g:G):g.le g:=⟨fun _ _ h=>h,fun _ _ _ h=>h⟩
theorem G.le_trans {a b c:G} (h:a.le b) (k:b.le c):a.le c:=⟨fun l d e=>k.1 l d (h.1 l d e),fun b o x e=>k.2 b o x (h.2 b o x e)⟩
def G.im (g:G):G:=⟨fun _=>none,g.I⟩
theorem G.im_le (g:G):g.im.le g:=⟨fun _ _ h=>by simp [G.im] at h,fun _ _ _ h=>h⟩
theorem G.le_im {g h:G} (k:g.le h):g.im.le h.im:=⟨fun _ _ h=>by simp [G.im] at h,k.2⟩
inductive VR:G→AV→Value→Prop where
 | any {g:G} (x:Value):VR g .any x
 | bool {g:G} (b:Bool):VR g (.bool b) (.bool b)
 | int {g:G} (k:IntKind) (n:Int):VR g (.int k n) (.int k n)
 | str {g:G} (s:ByteArray):VR g (.str s) (.string s)
 | nilp {g:G}:VR g .nilp (.pointer none)
 | nilSlice {g:G}:VR g .nilSlice (.slice none 0 0)
 | nilMap {g:G}:VR g .nilMap (.map none)
 | nilFunc {g:G}:VR g .nilFunc .nilFunc
 | nilIface {g:G}:VR g .nilIface .nilIface
 | ptr {g:G} (l off:Nat) (p:Pl) (h:g.μ l = some (some p)):VR g (.ptr l off) (.pointer (some ⟨p.block,p.base + off,none⟩))
 | slice {g:G} (l off len sz c:Nat) (p:Pl) (h:g.μ l = some (some p)) (hl:len≤c) (hk:p.kn≤off + c * sz) (hc:p.base + off + c * sz≤p.lim) :
   VR g (.slice l off len sz) (.slice (some ⟨p.block,p.base + off,none⟩) len c)
 | slice0 {g:G} (l sz:Nat) (h:g.μ l = some none):VR g (.slice l 0 0 sz) (.slice none 0 0)
 | sliceZ {g:G} (l off sz:Nat) (a:Addr) (p:Pl) (h:g.μ l = some (some p)) (hk:p.kn≤off) (ha:a.spot = none):VR g (.slice l off 0 sz) (.slice (some a) 0 0)
 | sliceN {g:G} (l sz:Nat) (a:Addr) (h:g.μ l = some none) (ha:a.spot = none):VR g (.slice l 0 0 sz) (.slice (some a) 0 0)
 | map {g:G} (l:Nat) (p:Pl) (h:g.μ l = some (some p)):VR g (.map l) (.map (some p.block))
 | list {g:G} (sz:Nat) (xs:List (List AV)) (b o c:Nat) (f:Nat→Nat→Value) (hl:xs.length≤c) (hs:∀ cs ∈ xs,cs.length = sz)
   (hI:∀ (i:Nat) (cs:List AV) (j:Nat) (v:AV),xs[i]? = some cs→cs[j]? = some v→g.I b (o + i * sz + j) = some (f i j))
   (hv:∀ (i:Nat) (cs:List AV) (j:Nat) (v:AV),xs[i]? = some cs→cs[j]? = some v→VR g.im v (f i j)) :
   VR g (.list sz xs) (.slice (some ⟨b,o,none⟩) xs.length c)
 | list0 {g:G} (sz:Nat):VR g (.list sz []) (.slice none 0 0)
 | lst {g:G} (sz n:Nat) (f:Nat→List AV) (x:Value) (h:VR g (.list sz ((List.range n).map f)) x):VR g (.lst sz n f) x
 | ref {g:G} (cs:List AV) (off b o:Nat) (f:Nat→Value)
   (hI:∀ (j:Nat) (v:AV),cs[j]? = some v→g.I b (o + j) = some (f j))
   (hv:∀ (j:Nat) (v:AV),cs[j]? = some v→VR g.im v (f j)) :
   VR g (.ref cs off) (.pointer (some ⟨b,o + off,none⟩))
 | func {g:G} (fn:Fn) (fs cs:List AV) (xs ys:Array Value) (h1:fs.length = xs.size) (h2:cs.length = ys.size)
   (hx:∀ (j:Nat) (v:AV) (x:Value),fs[j]? = some v→xs[j]? = some x→VR g v x) (hy:∀ (j:Nat) (v:AV) (x:Value),cs[j]? = some v→ys[j]? = some x→VR g v x) :
   VR g (.func fn fs cs) (.func fn xs ys)
 | iface {g:G} (t:TypeId) (v:AV) (x:Value) (h:VR g v x):VR g (.iface t v) (.iface t x)
 | agg {g:G} (cs:List AV) (xs:Array Value) (h1:cs.length = xs.size) (hx:∀ (j:Nat) (v:AV) (x:Value),cs[j]? = some v→xs[j]? = some x→VR g v x):VR g (.agg cs) (.agg xs)
 | tuple {g:G} (cs:List AV) (xs:Array Value) (h1:cs.length = xs.size) (hx:∀ (j:Nat) (v:AV) (x:Value),cs[j]? = some v→xs[j]? = some x→VR g v x):VR g (.tuple cs) (.tuple xs)
theorem VR.mono {g h:G} (hle:g.le h) {v:AV} {x:Value} (H:VR g v x):VR h v x:=by
 induction H generalizing h with
 | any x=>exact .any x
 | bool b=>exact .bool b
 | int k n=>exact .int k n
 | str s=>exact .str s
 | nilp=>exact .nilp
 | nilSlice=>exact .nilSlice
 | nilMap=>exact .nilMap
 | nilFunc=>exact .nilFunc
 | nilIface=>exact .nilIface
 | ptr l off p e=>exact .ptr l off p (hle.1 _ _ e)
 | slice l off len sz c p e a b d=>exact .slice l off len sz c p (hle.1 _ _ e) a b d
 | slice0 l sz e=>exact .slice0 l sz (hle.1 _ _ e)
 | sliceZ l off sz a p e b d=>exact .sliceZ l off sz a p (hle.1 _ _ e) b d
 | sliceN l sz a e d=>exact .sliceN l sz a (hle.1 _ _ e) d
 | map l p e=>exact .map l p (hle.1 _ _ e)
 | list sz xs b o c f hl hs hI hv ih=>exact .list sz xs b o c f hl hs (fun i cs j v a b=>hle.2 _ _ _ (hI i cs j v a b)) (fun i cs j v a b=>ih i cs j v a b (G.le_im hle))
 | list0 sz=>exact .list0 sz
 | lst sz n f x e ih=>exact .lst sz n f x (ih hle)
 | ref cs off b o f hI hv ih=>exact .ref cs off b o f (fun j v a=>hle.2 _ _ _ (hI j v a)) (fun j v a=>ih j v a (G.le_im hle))
 | func fn fs cs xs ys h1 h2 hx hy ih1 ih2=>exact .func fn fs cs xs ys h1 h2 (fun j v x a b=>ih1 j v x a b hle) (fun j v x a b=>ih2 j v x a b hle)
 | iface t v x e ih=>exact .iface t v x (ih hle)
 | agg cs xs h1 hx ih=>exact .agg cs xs h1 (fun j v x a b=>ih j v x a b hle)
 | tuple cs xs h1 hx ih=>exact .tuple cs xs h1 (fun j v x a b=>ih j v x a b hle)
def VRs (g:G) (vs:List AV) (xs:List Value):Prop:=vs.length = xs.length∧∀ (j:Nat) v x,vs[j]? = some v→xs[j]? = some x→VR g v x
theorem VRs.mono {g h:G} (hle:g.le h) {vs:List AV} {xs:List Value} (H:VRs g vs xs):VRs h vs xs:=⟨H.1,fun j v x a b=>(H.2 j v x a b).mono hle⟩
theorem VRs.nil (g:G):VRs g [] []:=⟨rfl,fun j v x a=>by simp at a⟩
theorem VRs.cons {g:G} {v:AV} {x:Value} {vs:List AV} {xs:List Value} (h:VR g v x) (H:VRs g vs xs):VRs g (v :: vs) (x :: xs):=by
 refine ⟨by simp [H.1],fun j u y a b=>?_⟩
 cases j with
 | zero=>simp at a b; subst a; subst b; exact h
 | succ j=>simp at a b; exact H.2 j u y a b
theorem VRs.cons_inv {g:G} {v:AV} {vs:List AV} {ys:List Value} (H:VRs g (v :: vs) ys):∃ x xs,ys = x :: xs∧VR g v x∧VRs g vs xs:=by
 obtain ⟨h1,h2⟩:=H
 cases ys with
 | nil=>simp at h1
 | cons x xs=>exact ⟨x,xs,rfl,h2 0 v x rfl rfl,by simpa using h1,fun j u y a b=>h2 (j + 1) u y (by simpa using a) (by simpa using b)⟩
theorem VRs.nil_inv {g:G} {ys:List Value} (H:VRs g [] ys):ys = []:=by
 have:=H.1; simp at this; exact List.eq_nil_of_length_eq_zero this.symm
theorem VRs.get {g:G} {vs:List AV} {xs:List Value} (H:VRs g vs xs) {j:Nat} {v:AV} (h:vs[j]? = some v):∃ x,xs[j]? = some x∧VR g v x:=by
 have hj:j < vs.length:=(List.getElem?_eq_some_iff.1 h).1
 have hj':j < xs.length:=H.1 ▸ hj
 exact ⟨xs[j],List.getElem?_eq_getElem hj',H.2 j v _ h (List.getElem?_eq_getElem hj')⟩
theorem VRs.append {g:G} {vs us:List AV} {xs ys:List Value} (H:VRs g vs xs) (K:VRs g us ys):VRs g (vs ++ us) (xs ++ ys):=by
 refine ⟨by simp [H.1,K.1],fun j u y a b=>?_⟩
 by_cases hj:j < vs.length
 ·rw [List.getElem?_append_left hj] at a
  rw [List.getElem?_append_left (H.1 ▸ hj)] at b
  exact H.2 j u y a b
 ·rw [List.getElem?_append_right (by omega)] at a
  rw [List.getElem?_append_right (by have:=H.1; omega)] at b
  rw [H.1] at a
  exact K.2 _ u y a b
theorem vrs_of_arr {g:G} {cs:List AV} {xs:Array Value} (h1:cs.length = xs.size) (hx:∀ (j:Nat) v x,cs[j]? = some v→xs[j]? = some x→VR g v x):VRs g cs xs.toList :=
 ⟨by simpa using h1,fun j v x a b=>hx j v x a (by simpa using b)⟩
def upd {α β:Type} [DecidableEq α] (f:α→β) (k:α) (v:β):α→β:=fun x=>if x = k then v else f x
theorem upd_same {α β:Type} [DecidableEq α] (f:α→β) (k:α) (v:β):upd f k v k = v:=by simp [upd]
theorem upd_ne {α β:Type} [DecidableEq α] (f:α→β) {k x:α} (v:β) (h:x ≠ k):upd f k v x = f x:=by simp [upd,h]
inductive Blk where
 | row (ty:TypeId) (cs:List AV)
 | mp (es:List (AV × AV))
def RowOK (P:Program) (g:G) (w:World) (l:Nat) (ty:TypeId) (cs:List AV):Prop :=
 (∃ p arr,g.μ l = some (some p)∧w.heap[p.block]? = some (.cells arr ty (0,0))∧arr.size = p.lim∧p.base + cs.length≤p.lim ∧
  cs.length = p.kn∧∀ (j:Nat) v,cs[j]? = some v→∃ x,arr[p.base + j]? = some x∧VR g v x)∨(g.μ l = some none∧cs = [])
def MapOK (g:G) (w:World) (l:Nat) (es:List (AV × AV)):Prop :=
 ∃ p arr clock,g.μ l = some (some p)∧w.heap[p.block]? = some (.map arr clock)∧arr.size = es.length∧p.base = 0 ∧
  ∀ (j:Nat) k v e,es[j]? = some (k,v)→arr[j]? = some e→VR g k e.key∧VR g v e.val
def BlkOK (P:Program) (g:G) (w:World) (l:Nat):Blk→Prop
 | .row ty cs=>RowOK P g w l ty cs
 | .mp es=>MapOK g w l es
def exB (P : Program) (ty : TypeId) : Bool := match P.info? ty with | some { desc := .named n _, .. } => n == "strings.Builder" | _ => false
def ExTy (P:Program) (ty:TypeId):Prop:=exB P ty = true
structure Env where
 w:World
 g:G
 K:Nat→Prop
 F:Nat→Prop
 n0:Nat
 hF:∀ l,F l→l < n0
 hg:∀ l,n0≤l→g.μ l = none
 D:List Deferred
def GL (P:Program) (w:World):Prop :=
 (∀ k, P.globalNamed "internal/bytealg.MaxLen" = some k → ∃ m, w.cell? ⟨k, 0, none⟩ = some (.int .i64 m)) ∧ Lib.TabIs P w "internal/strconv.uint64pow10" .u64 Lib.pow10Tab
structure Mem (P:Program) (E:Env) (F:Nat→Prop) (hm:Nat→Option Blk) (g:G) (w:World):Prop where
 fresh:∀ l,F l→g.μ l = none
 blk:∀ l B,hm l = some B→BlkOK P g w l B
 sep:∀ l l' B B' p p',hm l = some B→hm l' = some B'→l ≠ l'→g.μ l = some (some p)→g.μ l' = some (some p')→p.block ≠ p'.block
 imm:∀ b o x,g.I b o = some x→w.cell? ⟨b,o,none⟩ = some x
 sepI:∀ l B p,hm l = some B→g.μ l = some (some p)→∀ o,p.base≤o→g.I p.block o = none
 le0:E.g.le g
 os:w.os = E.w.os
 tape:w.tape = E.w.tape
 output:w.output = E.w.output
 size:E.w.heap.size≤w.heap.size
 keep:∀ b,b < E.w.heap.size→¬ E.K b→w.heap[b]? = E.w.heap[b]?
 own:∀ l B p,hm l = some B→g.μ l = some (some p)→E.K p.block∨E.w.heap.size≤p.block
 immNew:∀ b o x,g.I b o = some x→E.g.I b o = some x∨E.K b∨E.w.heap.size≤b
 exact:∀ l ty cs p,hm l = some (.row ty cs)→g.μ l = some (some p)→ExTy P ty→p.base = 0∧p.lim = cs.length
 gl:∀ w':World,E.w.heap.size≤w'.heap.size→(∀ b,b < E.w.heap.size→¬ E.K b→w'.heap[b]? = E.w.heap[b]?)→GL P w'
theorem Mem.glob {P:Program} {E:Env} {F:Nat→Prop} {hm:Nat→Option Blk} {g:G} {w:World} (h:Mem P E F hm g w):GL P w:=h.gl w h.size h.keep
structure Sim (P:Program) (E:Env) (N:Nat) (F:Nat→Prop) (fr:Nat→Option AV) (hm:Nat→Option Blk) (g:G) (a:Act) (w:World):Prop where
 size:a.tmps.size = N
 defers:a.defers = E.D
 fr:∀ t v,fr t = some v→∃ x,a.tmps[t]? = some x∧VR g v x
 mem:Mem P E F hm g w
theorem BlkOK.lt {P:Program} {g:G} {w:World} {l:Nat} {B:Blk} {p:Pl} (h:BlkOK P g w l B) (hp:g.μ l = some (some p)):p.block < w.heap.size:=by
 cases B with
 | row ty cs =>
  rcases h with ⟨q,arr,hq,hb,_⟩ | ⟨hq,_⟩
  ·rw [hp] at hq; simp at hq; subst hq
   exact (Array.getElem?_eq_some_iff.1 hb).1
  ·rw [hp] at hq; simp at hq
 | mp es =>
  obtain ⟨q,arr,cl,hq,hb,_⟩:=h
  rw [hp] at hq; simp at hq; subst hq
  exact (Array.getElem?_eq_some_iff.1 hb).1
theorem BlkOK.mono {P:Program} {g g':G} {w w':World} {l:Nat} {B:Blk} (h:BlkOK P g w l B) (hle:g.le g') (hw:∀ p,g.μ l = some (some p)→w'.heap[p.block]? = w.heap[p.block]?):BlkOK P g' w' l B:=by
 cases B with
 | row ty cs =>
  rcases h with ⟨q,arr,hq,hb,h1,h2,h3,h4⟩ | ⟨hq,h1⟩
  ·exact .inl ⟨q,arr,hle.1 _ _ hq,(hw q hq).trans hb,h1,h2,h3,fun j v e=>let ⟨x,ex,hx⟩:=h4 j v e; ⟨x,ex,hx.mono hle⟩⟩
  ·exact .inr ⟨hle.1 _ _ hq,h1⟩
 | mp es =>
  obtain ⟨q,arr,cl,hq,hb,h1,h2,h3⟩:=h
  exact ⟨q,arr,cl,hle.1 _ _ hq,(hw q hq).trans hb,h1,h2,fun j k v e a b=>⟨(h3 j k v e a b).1.mono hle,(h3 j k v e a b).2.mono hle⟩⟩
theorem Mem.lt {P:Program} {E:Env} {F:Nat→Prop} {hm:Nat→Option Blk} {g:G} {w:World} (h:Mem P E F hm g w) {l:Nat} {B:Blk} {p:Pl} (hl:hm l = some B) (hp:g.μ l = some (some p)):p.block < w.heap.size:=(h.blk l B hl).lt hp
theorem imm_lt {w:World} {b o:Nat} {x:Value} (h:w.cell? ⟨b,o,none⟩ = some x):b < w.heap.size:=block_lt_of_cell h
theorem Mem.step {P:Program} {E:Env} {F F':Nat→Prop} {hm hm':Nat→Option Blk} {g g':G} {w w':World} (h:Mem P E F hm g w) (l:Nat) (B:Blk) (p:Pl)
  (hle:g.le g') (hI:g'.I = g.I) (hF:∀ l,F' l→F l∧g'.μ l = g.μ l)
  (hos:w'.os = w.os) (htape:w'.tape = w.tape) (hout:w'.output = w.output) (hsize:w.heap.size≤w'.heap.size)
  (hother:∀ b,b ≠ p.block→b < w.heap.size→w'.heap[b]? = w.heap[b]?)
  (hp:g'.μ l = some (some p))
  (hold:(∃ l0 B0 p0,hm l0 = some B0∧g.μ l0 = some (some p0)∧p0.block = p.block∧p0.base≤p.base∧(l0 = l∨hm' l0 = none)∧(∀ o,o < p.base→w'.cell? ⟨p.block,o,none⟩ = w.cell? ⟨p.block,o,none⟩))∨w.heap.size≤p.block)
  (hB:BlkOK P g' w' l B) (hm1:hm' l = some B) (hm2:∀ k,k ≠ l→∀ B',hm' k = some B'→hm k = some B') (hex:∀ ty cs,B = .row ty cs→ExTy P ty→p.base = 0∧p.lim = cs.length):Mem P E F' hm' g' w':=by
 have hneq:∀ k B' q,k ≠ l→hm' k = some B'→g.μ k = some (some q)→q.block ≠ p.block:=by
  intro k B' q hk hB' hq
  rcases hold with ⟨l0,B0,p0,e0,e1,e2,_,e4,_⟩ | hnew
  ·rw [← e2]
   have hne:k ≠ l0:=by
    rintro rfl
    rcases e4 with e4 | e4
    ·exact hk e4
    ·rw [e4] at hB'; simp at hB'
   exact h.sep k l0 B' B0 q p0 (hm2 k hk B' hB') e0 hne hq e1
  ·have:=h.lt (hm2 k hk B' hB') hq; omega
 have hdef:∀ k B',hm k = some B'→∃ d,g.μ k = some d:=by
  intro k B' hk
  have:=h.blk k B' hk
  cases B' with
  | row ty cs=>rcases this with ⟨q,arr,hq,_⟩ | ⟨hq,_⟩ <;> exact ⟨_,hq⟩
  | mp es=>obtain ⟨q,arr,cl,hq,_⟩:=this; exact ⟨_,hq⟩
 have hpl:∀ k B' q,k ≠ l→hm' k = some B'→g'.μ k = some (some q)→g.μ k = some (some q):=by
  intro k B' q hk hB' hq
  obtain ⟨d,hd⟩:=hdef k B' (hm2 k hk B' hB')
  have:=hle.1 k d hd
  rw [hq] at this; rw [hd,this]
 have hIp:∀ b o x,g.I b o = some x→b = p.block→o < p.base∧∃ l0 B0 p0,hm l0 = some B0∧g.μ l0 = some (some p0)∧p0.block = p.block∧p0.base≤p.base∧(l0 = l∨hm' l0 = none)∧(∀ o,o < p.base→w'.cell? ⟨p.block,o,none⟩ = w.cell? ⟨p.block,o,none⟩):=by
  intro b o x hx hb
  rcases hold with hold | hnew
  ·refine ⟨?_,hold⟩
   obtain ⟨l0,B0,p0,e0,e1,e2,e3,_⟩:=hold
   rcases Nat.lt_or_ge o p.base with ho | ho
   ·exact ho
   ·exfalso
    have:=h.sepI l0 B0 p0 e0 e1 o (by omega)
    rw [e2,← hb] at this; rw [this] at hx; simp at hx
  ·have:=imm_lt (h.imm b o x hx); omega
 refine ⟨?_,?_,?_,?_,?_,G.le_trans h.le0 hle,hos.trans h.os,htape.trans h.tape,hout.trans h.output,Nat.le_trans h.size hsize,?_,?_,?_,?_,h.gl⟩
 ·intro k hk; obtain ⟨a,b⟩:=hF k hk; rw [b]; exact h.fresh k a
 ·intro k B' hB'
  by_cases hk:k = l
  ·subst hk; rw [hm1] at hB'; simp at hB'; subst hB'; exact hB
  ·exact (h.blk k B' (hm2 k hk B' hB')).mono hle fun q hq=>hother _ (hneq k B' q hk hB' hq) (h.lt (hm2 k hk B' hB') hq)
 ·intro k k' B1 B2 q q' h1 h2 hne hq hq'
  by_cases hk:k = l
  ·subst hk
   have hk':k' ≠ k:=fun e=>hne e.symm
   rw [hp] at hq; simp at hq; subst hq
   exact fun e=>hneq k' B2 q' hk' h2 (hpl k' B2 q' hk' h2 hq') e.symm
  ·by_cases hk':k' = l
   ·subst hk'
    rw [hp] at hq'; simp at hq'; subst hq'
    exact hneq k B1 q hk h1 (hpl k B1 q hk h1 hq)
   ·exact h.sep k k' B1 B2 q q' (hm2 k hk B1 h1) (hm2 k' hk' B2 h2) hne (hpl k B1 q hk h1 hq) (hpl k' B2 q' hk' h2 hq')
 ·intro b o x hx
  rw [hI] at hx
  have hc:=h.imm b o x hx
  by_cases hb:b = p.block
  ·obtain ⟨ho,l0,B0,p0,e0,e1,e2,e3,e4,e5⟩:=hIp b o x hx hb
   subst hb; rw [e5 o ho]; exact hc
  ·rw [← hc]
   have:=hother b hb (imm_lt hc)
   simp [World.cell?,this]
 ·intro k B' q hB' hq o ho
  rw [hI]
  by_cases hk:k = l
  ·subst hk
   rw [hp] at hq; simp at hq; subst hq
   cases hx:g.I p.block o with
   | none=>rfl
   | some x=>have:=(hIp _ o x hx rfl).1; omega
  ·exact h.sepI k B' q (hm2 k hk B' hB') (hpl k B' q hk hB' hq) o ho
 ·intro b hb hK
  rw [← h.keep b hb hK]
  have hbw:b < w.heap.size:=Nat.lt_of_lt_of_le hb h.size
  refine hother b (fun e=>?_) hbw
  rcases hold with ⟨l0,B0,p0,e0,e1,e2,_⟩ | hnew
  ·rcases h.own l0 B0 p0 e0 e1 with hx | hx
   ·rw [e2,← e] at hx; exact hK hx
   ·omega
  ·omega
 ·intro k B' q hB' hq
  by_cases hk:k = l
  ·subst hk
   rw [hp] at hq; simp at hq; subst hq
   rcases hold with ⟨l0,B0,p0,e0,e1,e2,_⟩ | hnew
   ·rw [← e2]; exact h.own l0 B0 p0 e0 e1
   ·exact .inr (Nat.le_trans h.size hnew)
  ·exact h.own k B' q (hm2 k hk B' hB') (hpl k B' q hk hB' hq)
 ·intro b o x hx
  rw [hI] at hx
  exact h.immNew b o x hx
 ·intro k ty cs q hB' hq he
  by_cases hk:k = l
  ·subst hk
   rw [hp] at hq; simp at hq; subst hq
   rw [hm1] at hB'; simp at hB'
   exact hex ty cs hB' he
  ·exact h.exact k ty cs q (hm2 k hk _ hB') (hpl k _ q hk hB' hq) he
end Go.SL
namespace Go.SL
open Go.RowKit
inductive TK where
 | bool | int (k:IntKind) | string | ptr (e:TypeId) | slice (e:TypeId) | array (n:Nat) (e:TypeId)
 | struct (fs:List (Nat × TypeId)) | map (k e:TypeId) | func | iface (n:Nat) | raw | other
def kindOf:TypeDesc→TK
 | .bool=>.bool | .int k=>.int k | .string=>.string | .pointer e=>.ptr e | .slice e=>.slice e | .array n e=>.array n e
 | .struct fs=>.struct (fs.toList.map fun f=>(f.offset,f.type)) | .map k e=>.map k e | .func _ _ _=>.func | .interface ms=>.iface ms.size | .unsafePointer=>.raw
 | _=>.other
def TK.isAgg:TK→Bool | .struct _ | .array _ _=>true | _=>false
structure TI where
 k:TK
 size:Nat
 bytes:Nat
 zero:List AV
def scal:Value→Option AV
 | .bool b=>some (.bool b) | .int k n=>some (.int k n) | .string s=>some (.str s) | .pointer none=>some .nilp | .slice none 0 0=>some .nilSlice
 | .map none=>some .nilMap | .nilFunc=>some .nilFunc | .nilIface=>some .nilIface | _=>none
theorem scal_ok (g:G):∀ {x:Value} {v:AV},scal x = some v→VR g v x:=by
 intro x v h
 unfold scal at h
 split at h <;> simp at h <;> subst h <;> constructor
def scals:List Value→Option (List AV)
 | []=>some []
 | x :: xs=>match scal x,scals xs with | some v,some vs=>some (v :: vs) | _,_=>none
theorem scals_ok (g:G):∀ {xs:List Value} {vs:List AV},scals xs = some vs→VRs g vs xs
 | [],vs,h=>by simp [scals] at h; subst h; exact VRs.nil g
 | x :: xs,vs,h=>by
  simp only [scals] at h
  split at h
  ·rename_i v us h1 h2
   simp at h; subst h
   exact VRs.cons (scal_ok g h1) (scals_ok g h2)
  ·simp at h
def aggV:Value→Bool | .agg _=>true | _=>false
def tiOf (P:Program) (t:TypeId):Option TI :=
 match P.underlying t,P.info? t with
 | some d,some i=>match i.zero with
  | some z=>match scals z.cells.toList with
   | some vs=>if vs.length = i.size∧aggV z = (kindOf d).isAgg then some { k:=kindOf d,size:=i.size,bytes:=i.bytes,zero:=vs } else none
   | none=>none
  | none=>none
 | _,_=>none
theorem tiOf_ok {P:Program} {t:TypeId} {ti:TI} (h:tiOf P t = some ti):∃ d i z,P.underlying t = some d∧P.info? t = some i∧i.zero = some z ∧
  kindOf d = ti.k∧i.size = ti.size∧i.bytes = ti.bytes∧(∀ g,VRs g ti.zero z.cells.toList)∧ti.zero.length = ti.size∧aggV z = ti.k.isAgg:=by
 unfold tiOf at h
 split at h
 ·rename_i d i hd hi
  split at h
  ·rename_i z hz
   split at h
   ·rename_i vs hvs
    split at h
    ·rename_i hn
     simp at h; subst h
     exact ⟨d,i,z,hd,hi,hz,rfl,rfl,rfl,fun g=>scals_ok g hvs,hn.1,hn.2⟩
    ·simp at h
   ·simp at h
  ·simp at h
 ·simp at h
theorem run_und {P:Program} {t:TypeId} {d:TypeDesc} (h:P.underlying t = some d) (w:World):(underlying t).run P w = .ok d w:=by
 simp [underlying,h]
theorem run_info {P:Program} {t:TypeId} {i:TypeInfo} (h:P.info? t = some i) (w:World):(typeInfo t).run P w = .ok i w:=by
 simp [typeInfo,h]
theorem run_size {P:Program} {t:TypeId} {i:TypeInfo} (h:P.info? t = some i) (w:World):(sizeOf t).run P w = .ok i.size w:=by
 simp [sizeOf,run_info h]
theorem run_zero {P:Program} {t:TypeId} {i:TypeInfo} {z:Value} (h:P.info? t = some i) (hz:i.zero = some z) (w:World):(zeroValue t).run P w = .ok z w:=by
 simp [zeroValue,run_info h,hz]
theorem run_isAgg {P:Program} {t:TypeId} {d:TypeDesc} (h:P.underlying t = some d) (w:World):(isAgg t).run P w = .ok (kindOf d).isAgg w:=by
 cases d <;> simp [isAgg,run_und h,kindOf,TK.isAgg]
structure Out where
 v:AV
 set:List (Nat × Option Blk)
 n:Nat
def applyS (hm:Nat→Option Blk) (s:List (Nat × Option Blk)):Nat→Option Blk:=s.foldl (fun h x=>upd h x.1 x.2) hm
def minus (F:Nat→Prop) (id n:Nat):Nat→Prop:=fun l=>F l∧¬ (id≤l∧l < id + n)
theorem Mem.fsub {P:Program} {E:Env} {F F':Nat→Prop} {hm:Nat→Option Blk} {g:G} {w:World} (h:Mem P E F hm g w) (hF:∀ l,F' l→F l):Mem P E F' hm g w :=
 { h with fresh:=fun l hl=>h.fresh l (hF l hl) }
theorem Mem.hsub {P:Program} {E:Env} {F:Nat→Prop} {hm hm':Nat→Option Blk} {g:G} {w:World} (h:Mem P E F hm g w) (hh:∀ l B,hm' l = some B→hm l = some B):Mem P E F hm' g w :=
 { h with
  blk:=fun l B hl=>h.blk l B (hh l B hl)
  sep:=fun l l' B B' p p' a b=>h.sep l l' B B' p p' (hh l B a) (hh l' B' b)
  sepI:=fun l B p a=>h.sepI l B p (hh l B a)
  own:=fun l B p a=>h.own l B p (hh l B a)
  exact:=fun l ty cs p a=>h.exact l ty cs p (hh l _ a) }
theorem Mem.same {P:Program} {E:Env} {F:Nat→Prop} {hm:Nat→Option Blk} {g:G} {w w':World} (h:Mem P E F hm g w) (e:w'.heap = w.heap) (e1:w'.os = w.os) (e2:w'.tape = w.tape) (e3:w'.output = w.output):Mem P E F hm g w' :=
 { h with
  blk:=fun l B hl=>(h.blk l B hl).mono (G.le_refl g) fun p hp=>by rw [e]
  imm:=fun b o x hx=>by rw [← h.imm b o x hx]; simp [World.cell?,e]
  os:=e1.trans h.os,tape:=e2.trans h.tape,output:=e3.trans h.output
  size:=by rw [e]; exact h.size
  keep:=fun b hb hK=>by rw [e]; exact h.keep b hb hK }
def Acts (P:Program) (E:Env) (F:Nat→Prop) (hm:Nat→Option Blk) (g:G) (w:World) (s:Sem Value) (id:Nat) (out:Out):Prop :=
 ∃ x g' w',s.run P w = .ok x w'∧VR g' out.v x∧g.le g'∧Mem P E (minus F id out.n) (applyS hm out.set) g' w'
section
variable {P:Program} {E:Env} {F:Nat→Prop} {hm:Nat→Option Blk} {g:G} {w:World} {id:Nat}
theorem Acts.pure (h:Mem P E F hm g w) {s:Sem Value} {v:AV} {x:Value} (hr:s.run P w = .ok x w) (hv:VR g v x):Acts P E F hm g w s id ⟨v,[],0⟩ :=
 ⟨x,g,w,hr,hv,G.le_refl g,h.fsub fun l hl=>hl.1⟩
def CellsAt (g:G) (w:World) (a:Addr) (vs:List AV):Prop:=a.spot = none∧∃ ys,VRs g vs ys∧∀ (j:Nat) y,ys[j]? = some y→w.cell? ⟨a.block,a.off + j,none⟩ = some y
theorem add_eq {a:Addr} (h:a.spot = none) (n:Nat):a.add n = ⟨a.block,a.off + n,none⟩:=by
 unfold Addr.add
 split
 ·subst_vars; cases a; simp_all
 ·cases a; simp_all
theorem VRs.drop {vs:List AV} {ys:List Value} (h:VRs g vs ys) (n:Nat):VRs g (vs.drop n) (ys.drop n) :=
 ⟨by simp [h.1],fun j v x a b=>h.2 (n + j) v x (by simpa using a) (by simpa using b)⟩
theorem VRs.take {vs:List AV} {ys:List Value} (h:VRs g vs ys) (n:Nat):VRs g (vs.take n) (ys.take n):=by
 refine ⟨by simp [h.1],fun j v x a b=>?_⟩
 rw [List.getElem?_take] at a b
 split at a
 ·rename_i hj; rw [if_pos hj] at b; exact h.2 j v x a b
 ·simp at a
theorem CellsAt.drop {a:Addr} {vs:List AV} (h:CellsAt g w a vs) (n:Nat):CellsAt g w (a.add n) (vs.drop n):=by
 obtain ⟨h0,ys,h1,h2⟩:=h
 rw [add_eq h0]
 exact ⟨rfl,ys.drop n,h1.drop n,fun j y e=>by have:=h2 (n + j) y (by simpa using e); simpa [Nat.add_assoc] using this⟩
theorem cells_of_list {b o n:Nat} {vs:List AV} (f:Nat→Value) (hn:vs.length = n) (hc:∀ (j:Nat) v,vs[j]? = some v→w.cell? ⟨b,o + j,none⟩ = some (f j)) (hv:∀ (j:Nat) v,vs[j]? = some v→VR g v (f j)):CellsAt g w ⟨b,o,none⟩ vs:=by
 subst hn
 refine ⟨rfl,(List.range vs.length).map f,⟨by simp,fun j v x a c=>?_⟩,fun j y e=>?_⟩
 ·have hj:j < vs.length:=(List.getElem?_eq_some_iff.1 a).1
  simp [hj] at c
  subst c; exact hv j v a
 ·have hj:j < vs.length:=by
   have:=(List.getElem?_eq_some_iff.1 e).1; simpa using this
  simp [hj] at e
  subst e
  exact hc j _ (List.getElem?_eq_getElem hj)
theorem row_cells (h:Mem P E F hm g w) {l:Nat} {ty:TypeId} {cs:List AV} {p:Pl} (hl:hm l = some (.row ty cs)) (hp:g.μ l = some (some p)):CellsAt g w ⟨p.block,p.base,none⟩ cs:=by
 rcases h.blk l _ hl with ⟨q,arr,hq,hb,h1,h2,h3,h4⟩ | ⟨hq,_⟩
 ·rw [hp] at hq; simp at hq; subst hq
  refine cells_of_list (fun j=>arr.getD (p.base + j) undef) rfl (fun j v e=>?_) (fun j v e=>?_)
  ·obtain ⟨x,ex,hx⟩:=h4 j v e
   simp [World.cell?,hb,ex]
  ·obtain ⟨x,ex,hx⟩:=h4 j v e
   have:arr.getD (p.base + j) undef = x:=by simp [Array.getD_eq_getD_getElem?,ex]
   rw [this]; exact hx
 ·rw [hp] at hq; simp at hq
theorem ptr_cells (h:Mem P E F hm g w) {l off:Nat} {ty:TypeId} {cs:List AV} {x:Value} (hl:hm l = some (.row ty cs)) (hx:VR g (.ptr l off) x):∃ a,x = .pointer (some a)∧CellsAt g w a (cs.drop off):=by
 cases hx with
 | ptr _ _ p e =>
  refine ⟨_,rfl,?_⟩
  have:=(row_cells h hl e).drop off
  rwa [add_eq rfl] at this
theorem ref_cells (h:Mem P E F hm g w) {off:Nat} {cs:List AV} {x:Value} (hx:VR g (.ref cs off) x):∃ a,x = .pointer (some a)∧CellsAt g w a (cs.drop off):=by
 cases hx with
 | ref _ _ b o f hI hv =>
  refine ⟨_,rfl,?_⟩
  have:=(cells_of_list (w:=w) (g:=g) (b:=b) (o:=o) f rfl (fun j v e=>h.imm _ _ _ (hI j v e)) (fun j v e=>(hv j v e).mono (G.im_le g))).drop off
  rwa [add_eq rfl] at this
def deref (hm:Nat→Option Blk):AV→Option (List AV)
 | .ptr l off=>match hm l with | some (.row _ cs)=>some (cs.drop off) | _=>none
 | .ref cs off=>some (cs.drop off)
 | _=>none
theorem deref_ok (h:Mem P E F hm g w) {p:AV} {cs:List AV} {x:Value} (hd:deref hm p = some cs) (hx:VR g p x):∃ a,x = .pointer (some a)∧CellsAt g w a cs:=by
 unfold deref at hd
 split at hd
 ·rename_i l off
  split at hd
  ·rename_i ty cs' hl; simp at hd; subst hd; exact ptr_cells h hl hx
  ·simp at hd
 ·simp at hd; subst hd; exact ref_cells h hx
 ·simp at hd
def loadAV (ti:TI) (vs:List AV):Option AV :=
 if ti.k.isAgg then (if ti.size≤vs.length then some (.agg (vs.take ti.size)) else none) else vs[0]?
theorem run_loadVar {P:Program} {t:TypeId} {ti:TI} (ht:tiOf P t = some ti) {a:Addr} {vs:List AV} {v:AV} (hc:CellsAt g w a vs) (hv:loadAV ti vs = some v) :
  ∃ x,(loadVar t a).run P w = .ok x w∧VR g v x:=by
 obtain ⟨d,i,z,hd,hi,hz,hk,hs,hb,hzv,hzl,hza⟩:=tiOf_ok ht
 obtain ⟨h0,ys,h1,h2⟩:=hc
 unfold loadAV at hv
 simp only [loadVar,Sem.run_bind,run_isAgg hd,Result.andThen_ok,hk]
 split at hv
 ·rename_i ha
  split at hv
  ·rename_i hl
   simp at hv; subst hv
   have hl':(ys.take ti.size).length = ti.size:=by have:=h1.1; simp; omega
   have hr:=run_loadCells_list (P:=P) w a (ys.take ti.size) (fun j y e=>by
    rw [add_eq h0]
    rw [List.getElem?_take] at e
    split at e
    ·exact h2 j y e
    ·simp at e)
   rw [hl'] at hr
   refine ⟨.agg (ys.take ti.size).toArray,by simp [ha,run_size hi,hs,hr],?_⟩
   have:=h1.take ti.size
   exact .agg _ _ (by simpa using this.1) fun j v x a b=>this.2 j v x a (by simpa using b)
  ·simp at hv
 ·rename_i ha
  obtain ⟨x,hx,hvx⟩:=h1.get hv
  have:=h2 0 x hx
  refine ⟨x,?_,hvx⟩
  have ea:a = ⟨a.block,a.off + 0,none⟩:=by cases a; simp_all
  rw [← ea] at this
  simp [ha,this]
theorem mem_new (h:Mem P E F hm g w) (hid:F id) {ty:TypeId} {cs:List AV} {arr:Array Value} (hcs:VRs g cs (arr.toList.take cs.length)) (hl:cs.length≤arr.size) (hex:ExTy P ty→arr.size = cs.length)
  {w':World} (hw:w'.heap = w.heap.push (.cells arr ty)) (e1:w'.os = w.os) (e2:w'.tape = w.tape) (e3:w'.output = w.output) :
  ∃ g',g.le g'∧g'.I = g.I∧g'.μ id = some (some ⟨w.heap.size,0,cs.length,arr.size⟩)∧Mem P E (minus F id 1) (upd hm id (some (.row ty cs))) g' w':=by
 have hfr:=h.fresh id hid
 let g':G:=⟨upd g.μ id (some (some ⟨w.heap.size,0,cs.length,arr.size⟩)),g.I⟩
 have hle:g.le g':=⟨fun l d e=>by
  show upd g.μ id _ l = _
  by_cases hl:l = id
  ·subst hl; rw [hfr] at e; simp at e
  ·rw [upd_ne _ _ hl]; exact e,fun b o x e=>e⟩
 have hμ:g'.μ id = some (some ⟨w.heap.size,0,cs.length,arr.size⟩):=upd_same _ _ _
 refine ⟨g',hle,rfl,hμ,?_⟩
 refine h.step (F':=minus F id 1) (g':=g') id (.row ty cs) ⟨w.heap.size,0,cs.length,arr.size⟩ hle rfl ?_ e1 e2 e3 (by rw [hw]; simp) ?_ hμ (.inr (Nat.le_refl _)) ?_ (upd_same _ _ _) ?_ (fun ty' cs' e he=>by simp at e; obtain ⟨rfl,rfl⟩:=e; exact ⟨rfl,hex he⟩)
 ·intro l hl
  refine ⟨hl.1,?_⟩
  have:l ≠ id:=fun e=>hl.2 ⟨by omega,by omega⟩
  exact upd_ne _ _ this
 ·intro b hb hlt
  rw [hw,Array.getElem?_push]
  rw [if_neg (by omega)]
 ·refine .inl ⟨_,arr,hμ,by rw [hw]; simp,rfl,by simpa using hl,rfl,fun j v e=>?_⟩
  obtain ⟨x,hx,hvx⟩:=hcs.get e
  rw [List.getElem?_take] at hx
  split at hx
  ·exact ⟨x,by simpa using hx,hvx.mono hle⟩
  ·simp at hx
 ·intro k hk B' e
  rw [upd_ne _ _ hk] at e; exact e
theorem acts_row (h:Mem P E F hm g w) (hid:F id) {ty:TypeId} {cs:List AV} {arr:Array Value} (hcs:VRs g cs arr.toList) :
  ∃ g',g.le g'∧g'.μ id = some (some ⟨w.heap.size,0,cs.length,arr.size⟩)∧Mem P E (minus F id 1) (upd hm id (some (.row ty cs))) g' { w with heap:=w.heap.push (.cells arr ty) }:=by
 have hl:cs.length = arr.size:=by simpa using hcs.1
 obtain ⟨g',a,_,b,c⟩:=mem_new h hid (cs:=cs) (by rw [hl,← Array.length_toList,List.take_length]; exact hcs) (Nat.le_of_eq hl) (fun _=>hl.symm) (w':={ w with heap:=w.heap.push (.cells arr ty) }) rfl rfl rfl rfl
 exact ⟨g',a,b,c⟩
theorem acts_alloc (h:Mem P E F hm g w) (hid:F id) {t:TypeId} {ti:TI} (ht:tiOf P t = some ti):Acts P E F hm g w (Instr.alloc t true (.tuple #[])) id ⟨.ptr id 0,[(id,some (.row t ti.zero))],1⟩:=by
 obtain ⟨d,i,z,hd,hi,hz,hk,hs,hb,hzv,hzl,hza⟩:=tiOf_ok ht
 obtain ⟨g',hle,hμ,hM⟩:=acts_row h hid (hzv g) (ty:=t)
 refine ⟨.pointer (some ⟨w.heap.size,0,none⟩),g',_,?_,?_,hle,hM⟩
 ·simp [Instr.alloc,run_zero hi hz,newVar,newRow]
 ·exact .ptr id 0 _ hμ
def AV.cells:AV→List AV | .agg cs=>cs | v=>[v]
def AV.known:AV→Bool | .any | .tuple _=>false | _=>true
theorem VR.list_slice {sz:Nat} {xs:List (List AV)} {x:Value} (h:VR g (.list sz xs) x):∃ a n c,x = .slice a n c:=by
 generalize hv:AV.list sz xs = v at h
 cases h <;> simp at hv <;> exact ⟨_,_,_,rfl⟩
theorem VR.list_len {sz:Nat} {xs:List (List AV)} {x:Value} (h:VR g (.list sz xs) x):∃ a c,x = .slice a xs.length c:=by
 generalize hv:AV.list sz xs = v at h
 cases h <;> simp at hv <;> obtain ⟨rfl,rfl⟩:=hv <;> exact ⟨_,_,rfl⟩
theorem cells_ok {v:AV} {x:Value} (hk:v.known = true) (h:VR g v x):VRs g v.cells x.cells.toList:=by
 cases h with
 | any x=>simp [AV.known] at hk
 | tuple cs xs h1 hx=>simp [AV.known] at hk
 | agg cs xs h1 hx=>exact vrs_of_arr h1 hx
 | sliceZ l off sz a p e b d=>exact VRs.cons (.sliceZ l off sz a p e b d) (VRs.nil g)
 | sliceN l sz a e d=>exact VRs.cons (.sliceN l sz a e d) (VRs.nil g)
 | lst sz n f x e=>obtain ⟨a,m,c,rfl⟩:=e.list_slice; exact VRs.cons (.lst sz n f _ e) (VRs.nil g)
 | _=>exact VRs.cons (by constructor <;> assumption) (VRs.nil g)
theorem acts_box (h:Mem P E F hm g w) (hid:F id) {t:TypeId} {v:AV} {x:Value} (hk:v.known = true) (hv:VR g v x) :
  Acts P E F hm g w (Instr.box t x) id ⟨.ptr id 0,[(id,some (.row t v.cells))],1⟩:=by
 obtain ⟨g',hle,hμ,hM⟩:=acts_row h hid (cells_ok hk hv) (ty:=t)
 exact ⟨.pointer (some ⟨w.heap.size,0,none⟩),g',_,by simp [Instr.box,newVar,newRow],.ptr id 0 _ hμ,hle,hM⟩
def AV.one:AV→Bool | .any | .tuple _ | .agg _=>false | _=>true
theorem one_ok {v:AV} {x:Value} (hk:v.one = true) (h:VR g v x):x.oneCell' = true:=by
 cases h <;> first | rfl | (simp [AV.one] at hk; done) | (rename_i e; obtain ⟨a,m,c,rfl⟩:=e.list_slice; rfl)
def setAll:List AV→Nat→List AV→List AV
 | cs,_,[]=>cs
 | cs,off,v :: vs=>setAll (cs.set off v) (off + 1) vs
theorem setAll_get:∀ (vs cs:List AV) (off j:Nat),off + vs.length≤cs.length→(setAll cs off vs)[j]? = if off≤j∧j < off + vs.length then vs[j - off]? else cs[j]?
 | [],cs,off,j,h=>by simp only [setAll]; rw [if_neg (by simp)]
 | v :: vs,cs,off,j,h=>by
  simp only [setAll]
  rw [setAll_get vs _ (off + 1) j (by simp at h ⊢; omega)]
  simp only [List.length_cons] at h ⊢
  by_cases h1:off + 1≤j∧j < off + 1 + vs.length
  ·rw [if_pos h1,if_pos (by omega)]
   have:j - off = (j - (off + 1)) + 1:=by omega
   rw [this]; simp
  ·rw [if_neg h1]
   by_cases h2:j = off
   ·subst h2
    rw [if_pos (by omega)]
    have:j < cs.length:=by omega
    simp [this]
   ·rw [if_neg (by omega),List.getElem?_set_ne (by omega)]
theorem setAll_length:∀ (vs cs:List AV) (off:Nat),(setAll cs off vs).length = cs.length
 | [],cs,off=>rfl
 | v :: vs,cs,off=>by simp [setAll,setAll_length vs]
theorem mem_store (h:Mem P E F hm g w) {l off:Nat} {ty:TypeId} {cs vs:List AV} {p:Pl} {arr:Array Value} {ys:List Value} (hl:hm l = some (.row ty cs)) (hp:g.μ l = some (some p))
  (hb:w.heap[p.block]? = some (.cells arr ty (0,0))) (hvs:VRs g vs ys) (hoff:off + vs.length≤cs.length) :
  Mem P E F (upd hm l (some (.row ty (setAll cs off vs)))) g (w.setRow p.block (arr.toList.take (p.base + off) ++ ys ++ arr.toList.drop (p.base + off + ys.length)).toArray):=by
 rcases h.blk l _ hl with ⟨q,arr',hq,hb',h1,h2,h3,h4⟩ | ⟨hq,_⟩
 ·rw [hp] at hq; simp at hq; subst hq
  rw [hb] at hb'; simp at hb'; subst hb'
  have hlen:=hvs.1
  have hheap:=setRow_heap w p.block arr (arr.toList.take (p.base + off) ++ ys ++ arr.toList.drop (p.base + off + ys.length)).toArray ty (0,0) hb
  have hget:∀ j,(arr.toList.take (p.base + off) ++ ys ++ arr.toList.drop (p.base + off + ys.length))[j]? = if p.base + off≤j∧j < p.base + off + ys.length then ys[j - (p.base + off)]? else arr[j]?:=by
   intro j
   have hs:(arr.toList.take (p.base + off)).length = p.base + off:=by simp; omega
   by_cases c1:j < p.base + off
   ·rw [List.append_assoc,List.getElem?_append_left (by omega),List.getElem?_take,if_pos c1,if_neg (by omega)]; simp
   ·by_cases c2:j < p.base + off + ys.length
    ·rw [List.append_assoc,List.getElem?_append_right (by omega),hs,List.getElem?_append_left (by omega),if_pos (by omega)]
    ·rw [List.getElem?_append_right (by simp; omega),if_neg (by omega)]
     simp only [List.length_append,hs,List.getElem?_drop]
     rw [show p.base + off + ys.length + (j - (p.base + off + ys.length)) = j by omega]
     simp
  have hsz:(arr.toList.take (p.base + off) ++ ys ++ arr.toList.drop (p.base + off + ys.length)).length = arr.size:=by simp; omega
  refine h.step (F':=F) (g':=g) l (.row ty (setAll cs off vs)) p (G.le_refl g) rfl (fun l hl=>⟨hl,rfl⟩) rfl rfl rfl (by simp) (fun b hbn hlt=>setRow_other w _ _ _ hbn) hp ?_ ?_ (upd_same _ _ _) (fun k hk B' e=>by rw [upd_ne _ _ hk] at e; exact e) (fun ty' cs' e he=>by simp at e; obtain ⟨rfl,rfl⟩:=e; rw [setAll_length]; exact h.exact l ty cs p hl hp he)
  ·refine .inl ⟨l,_,p,hl,hp,rfl,Nat.le_refl _,.inl rfl,fun o ho=>?_⟩
   simp only [World.cell?,hheap,hb]
   simp only [Option.isSome_none,Bool.false_eq_true,if_false,List.getElem?_toArray]
   rw [hget o,if_neg (by omega)]
  ·refine .inl ⟨p,_,hp,hheap,by simpa using hsz.trans h1,by rw [setAll_length]; exact h2,by rw [setAll_length]; exact h3,fun j v e=>?_⟩
   rw [setAll_get vs cs off j hoff] at e
   simp only [List.getElem?_toArray]
   rw [hget]
   by_cases c:off≤j∧j < off + vs.length
   ·rw [if_pos c] at e
    rw [if_pos (by omega),show p.base + j - (p.base + off) = j - off by omega]
    exact hvs.get e
   ·rw [if_neg c] at e
    rw [if_neg (by omega)]
    exact h4 j v e
 ·rw [hp] at hq; simp at hq
def AV.ones:List AV→Bool | []=>true | v :: vs=>v.one && AV.ones vs
theorem ones_ok:∀ {vs:List AV} {ys:List Value},AV.ones vs = true→VRs g vs ys→∀ y ∈ ys,y.oneCell' = true
 | [],ys,_,h=>by rw [h.nil_inv]; simp
 | v :: vs,ys,ho,h=>by
  obtain ⟨x,xs,rfl,hx,hxs⟩:=h.cons_inv
  simp [AV.ones] at ho
  intro y hy
  simp at hy
  rcases hy with rfl | hy
  ·exact one_ok ho.1 hx
  ·exact ones_ok ho.2 hxs y hy
theorem acts_store (h:Mem P E F hm g w) {t:TypeId} {ti:TI} (ht:tiOf P t = some ti) {l off:Nat} {ty:TypeId} {cs:List AV} (hl:hm l = some (.row ty cs)) {v:AV} {xa x:Value}
  (ha:VR g (.ptr l off) xa) (hv:VR g v x) (hk:v.known = true) (hone:AV.ones v.cells = true) (hlen:v.cells.length = ti.size) (hoff:off + v.cells.length≤cs.length) :
  ∃ w',(Instr.storeAt t xa x).run P w = .ok () w'∧Mem P E F (upd hm l (some (.row ty (setAll cs off v.cells)))) g w':=by
 obtain ⟨d,i,z,hd,hi,hz,hk',hs,hb,hzv,hzl,hza⟩:=tiOf_ok ht
 cases ha with
 | ptr _ _ p e =>
  rcases h.blk l _ hl with ⟨q,arr,hq,hb,h1,h2,h3,h4⟩ | ⟨hq,_⟩
  ·rw [e] at hq; simp at hq; subst hq
   have hvs:=cells_ok hk hv
   have hn:x.cells.toList.length = v.cells.length:=hvs.1.symm
   refine ⟨_,?_,mem_store h hl e hb hvs hoff⟩
   have hst:=run_storeCells_at P p.block (p.base + off) ty x.cells.toList 0 arr w hb (by omega) (ones_ok hone hvs)
   simp only [Nat.add_zero] at hst
   have hsz:x.cells.size = i.size:=by rw [hs,← hlen,← hn]; simp
   simp [Instr.storeAt,Instr.sureAddr,storeVar,run_size hi,hsz,hst]
  ·rw [e] at hq; simp at hq
end
end Go.SL
namespace Go.SL
open Go.RowKit
def szOf (P:Program) (t:TypeId):Option Nat:=(P.info? t).map (·.size)
def kOf (P:Program) (t:TypeId):Option TK:=(P.underlying t).map kindOf
theorem kOf_ok {P:Program} {t:TypeId} {k:TK} (h:kOf P t = some k):∃ d,P.underlying t = some d∧kindOf d = k:=by
 unfold kOf at h; cases hd:P.underlying t with
 | none=>simp [hd] at h
 | some d=>simp [hd] at h; exact ⟨d,rfl,h⟩
theorem szOf_ok {P:Program} {t:TypeId} {n:Nat} (h:szOf P t = some n):∃ i,P.info? t = some i∧i.size = n:=by
 unfold szOf at h; cases hd:P.info? t with
 | none=>simp [hd] at h
 | some d=>simp [hd] at h; exact ⟨d,rfl,h⟩
theorem kind_slice {d:TypeDesc} {e:TypeId} (h:kindOf d = .slice e):d = .slice e:=by cases d <;> simp [kindOf] at h ⊢; exact h
theorem kind_string {d:TypeDesc} (h:kindOf d = .string):d = .string:=by cases d <;> simp [kindOf] at h ⊢
theorem kind_bool {d:TypeDesc} (h:kindOf d = .bool):d = .bool:=by cases d <;> simp [kindOf] at h ⊢
theorem kind_int {d:TypeDesc} {k:IntKind} (h:kindOf d = .int k):d = .int k:=by cases d <;> simp [kindOf] at h ⊢; exact h
theorem kind_ptr {d:TypeDesc} {e:TypeId} (h:kindOf d = .ptr e):d = .pointer e:=by cases d <;> simp [kindOf] at h ⊢; exact h
theorem kind_array {d:TypeDesc} {n:Nat} {e:TypeId} (h:kindOf d = .array n e):d = .array n e:=by cases d <;> simp [kindOf] at h ⊢; exact h
theorem kind_map {d:TypeDesc} {k e:TypeId} (h:kindOf d = .map k e):d = .map k e:=by cases d <;> simp [kindOf] at h ⊢; exact h
theorem kind_struct {d:TypeDesc} {fs:List (Nat × TypeId)} (h:kindOf d = .struct fs):∃ f,d = .struct f∧f.toList.map (fun f=>(f.offset,f.type)) = fs:=by
 cases d <;> simp [kindOf] at h ⊢; exact h
theorem kind_iface {d:TypeDesc} {n:Nat} (h:kindOf d = .iface n):∃ ms,d = .interface ms∧ms.size = n:=by cases d <;> simp [kindOf] at h ⊢; exact h
theorem kind_raw {d:TypeDesc} (h:kindOf d = .raw):d = .unsafePointer:=by cases d <;> simp [kindOf] at h ⊢
theorem kind_func {d:TypeDesc} (h:kindOf d = .func):∃ a b c,d = .func a b c:=by cases d <;> simp [kindOf] at h ⊢
def evInt (op:BinOp) (k:IntKind) (a b:Int):Option AV :=
 match op with
 | .add=>some (.int k (k.wrap (a + b)))
 | .sub=>some (.int k (k.wrap (a - b)))
 | .mul=>some (.int k (k.wrap (a * b)))
 | .quo=>if b = 0 then none else some (.int k (k.wrap (a.tdiv b)))
 | .rem=>if b = 0 then none else some (.int k (a.tmod b))
 | .and=>some (.int k (k.wrap (BitVec.ofInt k.bits a &&& BitVec.ofInt k.bits b).toNat))
 | .or=>some (.int k (k.wrap (BitVec.ofInt k.bits a ||| BitVec.ofInt k.bits b).toNat))
 | .xor=>some (.int k (k.wrap (BitVec.ofInt k.bits a ^^^ BitVec.ofInt k.bits b).toNat))
 | .andNot=>some (.int k (k.wrap (BitVec.ofInt k.bits a &&& ~~~BitVec.ofInt k.bits b).toNat))
 | .eql=>some (.bool (decide (a = b)))
 | .neq=>some (.bool (!decide (a = b)))
 | .lss=>some (.bool (decide (a < b)))
 | .leq=>some (.bool (decide (a≤b)))
 | .gtr=>some (.bool (decide (a > b)))
 | .geq=>some (.bool (decide (a ≥ b)))
 | _=>none
def evShift (op:BinOp) (k:IntKind) (a b:Int):Option AV :=
 if b < 0 then none else
 match op with
 | .shl=>some (.int k (k.wrap (a * 2 ^ min b.toNat k.bits)))
 | .shr=>some (.int k (a.fdiv (2 ^ min b.toNat k.bits)))
 | _=>none
def evStr (op:BinOp) (a b:ByteArray):Option AV :=
 match op with
 | .add=>if a.size + b.size≤9223372036854775807 then some (.str (a ++ b)) else none
 | .eql=>some (.bool (decide (a = b)))
 | .neq=>some (.bool (!decide (a = b)))
 | .lss=>some (.bool (Op.bytesLess a.toList b.toList))
 | .geq=>some (.bool !(Op.bytesLess a.toList b.toList))
 | _=>none
def evEq (k:TK):AV→AV→Option Bool
 | .bool a,.bool b=>match k with | .bool=>some (a == b) | _=>none
 | .nilp,.nilp=>match k with | .ptr _=>some true | _=>none
 | .ptr _ _,.nilp=>match k with | .ptr _=>some false | _=>none
 | .ref _ _,.nilp=>match k with | .ptr _=>some false | _=>none
 | .nilSlice,.nilSlice=>match k with | .slice _=>some true | _=>none
 | .nilIface,.iface _ _=>match k with | .iface _=>some false | _=>none
 | .iface _ _,.nilIface=>match k with | .iface _=>some false | _=>none
 | .nilFunc,.nilFunc=>match k with | .func=>some true | _=>none
 | .func _ _ _,.nilFunc=>match k with | .func=>some false | _=>none
 | .map _,.nilMap=>match k with | .map _ _=>some false | _=>none
 | .nilMap,.nilMap=>match k with | .map _ _=>some true | _=>none
 | _,_=>none
def evBin (P:Program) (op:BinOp) (t:TypeId) (a b:AV):Option AV :=
 match a,b with
 | .int k x,.int k' y=>match op with
  | .shl=>evShift .shl k x y
  | .shr=>evShift .shr k x y
  | op=>if k = k' then evInt op k x y else none
 | .str x,.str y=>evStr op x y
 | a,b=>match kOf P t with
  | some k=>match evEq k a b with
   | some r=>match op with | .eql=>some (.bool r) | .neq=>some (.bool !r) | _=>none
   | none=>none
  | none=>none
theorem bytes_beq (x y:ByteArray):(x.toList == y.toList) = decide (x = y):=by
 rw [ByteArray.toList_eq,ByteArray.toList_eq]
 rw [Bool.eq_iff_iff]
 simp only [beq_iff_eq,decide_eq_true_eq]
 constructor
 ·intro h
  have:x.data = y.data:=Array.ext' h
  cases x; cases y; simp_all
 ·rintro rfl; rfl
section
variable {P:Program} {w:World}
theorem run_evInt {t:TypeId} {op:BinOp} {k:IntKind} {a b:Int} {v:AV} (hs1:op ≠ .shl) (hs2:op ≠ .shr) (h:evInt op k a b = some v) (g:G):∃ x,(binOp op t (.int k a) (.int k b)).run P w = .ok x w∧VR g v x:=by
 cases op <;> simp only [evInt] at h <;> (try split at h) <;> simp at h <;> (try subst h) <;>
  simp_all [binOp,Op.intArith,Op.intDiv,Op.intBits,Op.intCmp] <;> (try (refine ⟨_,rfl,?_⟩)) <;> first
  | exact .int _ _
  | exact .bool _
  | (simp only [BEq.beq,bne]; first | exact .bool _ | (rw [Bool.not_eq_eq_eq_not]; exact .bool _))
theorem run_evShift {t:TypeId} {op:BinOp} {k k':IntKind} {a b:Int} {v:AV} (ho:op = .shl∨op = .shr) (h:evShift op k a b = some v) (g:G):∃ x,(binOp op t (.int k a) (.int k' b)).run P w = .ok x w∧VR g v x:=by
 unfold evShift at h
 split at h
 ·simp at h
 ·rename_i hb
  rcases ho with rfl | rfl <;> simp at h <;> subst h <;> simp [binOp,Op.shift,hb] <;> exact .int _ _
theorem run_evStr {t:TypeId} {op:BinOp} {a b:ByteArray} {v:AV} (h:evStr op a b = some v) (g:G):∃ x,(binOp op t (.string a) (.string b)).run P w = .ok x w∧VR g v x:=by
 have hmax:IntKind.i64.max = 9223372036854775807:=by decide
 cases op <;> simp only [evStr] at h <;> (try split at h) <;> simp at h <;> (try subst h)
 ·rename_i hsz
  refine ⟨.string (a ++ b),?_,.str _⟩
  have:¬ ((a.size + b.size:Nat):Int) > IntKind.i64.max:=by rw [hmax]; omega
  simp only [binOp,Op.stringOp,if_neg this]; rfl
 ·exact ⟨_,by simp only [binOp,Op.stringOp,bytes_beq]; rfl,.bool _⟩
 ·exact ⟨_,by simp only [binOp,Op.stringOp,bytes_beq]; rfl,.bool _⟩
 ·exact ⟨_,by simp only [binOp,Op.stringOp]; rfl,.bool _⟩
 ·exact ⟨_,by simp only [binOp,Op.stringOp]; rfl,.bool _⟩
theorem run_evEqIn {n:Nat} {t:TypeId} {k:TK} {a b:AV} {x y:Value} {r:Bool} {g:G} (hk:kOf P t = some k) (h:evEq k a b = some r) (ha:VR g a x) (hb:VR g b y) :
  (Op.equalIn (n + 1) t x y).run P w = .ok r w:=by
 obtain ⟨d,hd,hkd⟩:=kOf_ok hk
 unfold evEq at h
 split at h <;> (try split at h) <;> simp at h <;> cases ha <;> cases hb <;> subst h <;> first
  | (obtain rfl:=kind_bool hkd; simp [Op.equalIn,run_und hd]; done)
  | (obtain rfl:=kind_ptr hkd; simp [Op.equalIn,run_und hd]; done)
  | (obtain rfl:=kind_slice hkd; simp [Op.equalIn,run_und hd]; done)
  | (obtain rfl:=kind_map hkd; simp [Op.equalIn,run_und hd]; done)
  | (obtain ⟨ms,rfl,_⟩:=kind_iface hkd; simp [Op.equalIn,run_und hd]; done)
  | (obtain ⟨p,q,s,rfl⟩:=kind_func hkd; simp [Op.equalIn,run_und hd]; done)
theorem run_evEq {t:TypeId} {k:TK} {a b:AV} {x y:Value} {r:Bool} {g:G} (hk:kOf P t = some k) (h:evEq k a b = some r) (ha:VR g a x) (hb:VR g b y) :
  (Op.equal t x y).run P w = .ok r w:=run_evEqIn (n:=9999) hk h ha hb
end
end Go.SL
namespace Go.SL
open Go.RowKit
section
variable {P:Program} {E:Env} {F:Nat→Prop} {hm:Nat→Option Blk} {g:G} {w:World} {id:Nat}
theorem run_fieldPlace {f:Field} {a:Addr} {i:TypeInfo} (hi:P.info? f.type = some i) (hs:i.size ≠ 0) (w:World):(fieldPlace a f).run P w = .ok (a.add f.offset) w:=by
 simp [fieldPlace,run_size hi,hs]
def evField (P:Program) (t:TypeId) (f:Nat):Option (Nat × TypeId) :=
 match kOf P t with
 | some (.struct fs)=>fs[f]?
 | _=>none
theorem evField_ok {t:TypeId} {f:Nat} {o:Nat} {ft:TypeId} (h:evField P t f = some (o,ft)):∃ fs fd,P.underlying t = some (.struct fs)∧fs[f]? = some fd∧fd.offset = o∧fd.type = ft:=by
 unfold evField at h
 split at h
 ·rename_i fs hk
  obtain ⟨d,hd,hkd⟩:=kOf_ok hk
  obtain ⟨fl,rfl,hfl⟩:=kind_struct hkd
  subst hfl
  rw [List.getElem?_map] at h
  cases hx:fl.toList[f]? with
  | none=>simp [hx] at h
  | some fd=>simp [hx] at h; exact ⟨fl,fd,hd,by simpa using hx,h.1,h.2⟩
 ·simp at h
def shift (n:Nat):AV→Option AV
 | .ptr l off=>some (.ptr l (off + n))
 | .ref cs off=>some (.ref cs (off + n))
 | _=>none
theorem shift_ok {v u:AV} {x:Value} {n:Nat} (h:shift n v = some u) (hv:VR g v x):∃ a,x = .pointer (some a)∧a.spot = none∧VR g u (.pointer (some (a.add n))):=by
 unfold shift at h
 split at h <;> simp at h <;> subst h <;> cases hv
 ·rename_i l off p e
  refine ⟨_,rfl,rfl,?_⟩
  rw [add_eq rfl]; dsimp only; rw [Nat.add_assoc]; exact .ptr _ _ p e
 ·rename_i cs off b o f hI hv
  refine ⟨_,rfl,rfl,?_⟩
  rw [add_eq rfl]; dsimp only; rw [Nat.add_assoc]; exact .ref _ _ b o f hI hv
theorem run_fieldAt {t:TypeId} {f o n:Nat} {ft:TypeId} {v u:AV} {x:Value} (hf:evField P t f = some (o,ft)) (hs:szOf P ft = some n) (hn:n ≠ 0) (hu:shift o v = some u) (hv:VR g v x) (w:World) :
  ∃ y,(Instr.fieldAt t x f).run P w = .ok y w∧VR g u y:=by
 obtain ⟨fs,fd,h1,h2,h3,h4⟩:=evField_ok hf
 obtain ⟨i,hi,hin⟩:=szOf_ok hs
 obtain ⟨a,rfl,ha,hy⟩:=shift_ok hu hv
 subst h3 h4
 refine ⟨.pointer (some (a.add fd.offset)),?_,hy⟩
 simp [Instr.fieldAt,run_und h1,h2,Instr.sureAddr,run_fieldPlace hi (by omega)]
def partAV (P:Program) (t:TypeId) (cs:List AV) (off:Nat):Option AV :=
 match kOf P t,szOf P t with
 | some k,some n=>if k.isAgg then some (.agg ((cs.drop off).take n)) else cs[off]?
 | _,_=>none
theorem run_part {t:TypeId} {cs:List AV} {off:Nat} {v:AV} {xs:Array Value} (h:partAV P t cs off = some v) (hx:VRs g cs xs.toList) (w:World):∃ y,(part t xs off).run P w = .ok y w∧VR g v y:=by
 unfold partAV at h
 split at h
 ·rename_i k n hk hn
  obtain ⟨d,hd,hkd⟩:=kOf_ok hk
  obtain ⟨i,hi,hin⟩:=szOf_ok hn
  split at h
  ·rename_i ha
   simp at h; subst h
   refine ⟨.agg (xs.extract off (off + i.size)),by simp [part,run_isAgg hd,hkd,ha,run_size hi],?_⟩
   have:=(hx.drop off).take n
   have e:(xs.extract off (off + i.size)).toList = (xs.toList.drop off).take n:=by
    simp [hin,List.drop_take]
   exact .agg _ _ (this.1.trans (by rw [← e,Array.length_toList])) fun j v x a b=>this.2 j v x a (by rw [← e,Array.getElem?_toList]; exact b)
  ·rename_i ha
   obtain ⟨y,hy,hvy⟩:=hx.get h
   exact ⟨y,by simp [part,run_isAgg hd,hkd,ha,show xs[off]? = some y by simpa using hy],hvy⟩
 ·simp at h
theorem run_field {t:TypeId} {f o:Nat} {ft:TypeId} {cs:List AV} {v:AV} {x:Value} (hf:evField P t f = some (o,ft)) (hp:partAV P ft cs o = some v) (hx:VR g (.agg cs) x) (w:World) :
  ∃ y,(Instr.field t x f).run P w = .ok y w∧VR g v y:=by
 obtain ⟨fs,fd,h1,h2,h3,h4⟩:=evField_ok hf
 subst h3 h4
 cases hx with
 | agg _ xs e hxs =>
  obtain ⟨y,hy,hvy⟩:=run_part hp (vrs_of_arr e hxs) w
  exact ⟨y,by simp [Instr.field,run_und h1,h2,asAgg,hy],hvy⟩
def evIndexAddr0 (P:Program) (t:TypeId) (x:AV) (i:Int):Option AV :=
 match kOf P t,x with
 | some (.slice e),.slice l off len sz=>match szOf P e with
  | some n=>if n = sz∧0≤i∧i < len then some (.ptr l (off + i.toNat * n)) else none
  | none=>none
 | some (.slice e),.list sz xs=>match szOf P e with
  | some n=>if n = sz∧0≤i then (match xs[i.toNat]? with | some cs=>some (.ref cs 0) | none=>none) else none
  | none=>none
 | some (.array m e),p=>match szOf P e with
  | some n=>if 0≤i∧i < m then shift (i.toNat * n) p else none
  | none=>none
 | _,_=>none
theorem run_indexAt0 {t:TypeId} {x v:AV} {y:Value} {k:IntKind} {i:Int} (h:evIndexAddr0 P t x i = some v) (hx:VR g x y) (w:World):∃ z,(Instr.indexAt t y (.int k i)).run P w = .ok z w∧VR g v z:=by
 unfold evIndexAddr0 at h
 split at h
 ·rename_i e l off len sz hk
  obtain ⟨d,hd,hkd⟩:=kOf_ok hk
  obtain rfl:=kind_slice hkd
  split at h
  ·rename_i n hn
   obtain ⟨inf,hi,hin⟩:=szOf_ok hn
   split at h
   ·rename_i hb
    obtain ⟨rfl,hb⟩:=hb
    simp at h; subst h
    cases hx with
    | slice _ _ _ _ c p e1 e2 e3 =>
     refine ⟨_,?_,.ptr l _ p e1⟩
     simp [Instr.indexAt,asIntOf,run_und hd,hb,run_size hi,add_eq,hin,Nat.add_assoc]
    | slice0 _ _ e1=>omega
    | sliceZ=>omega
    | sliceN=>omega
   ·simp at h
  ·simp at h
 ·rename_i e sz xs hk
  obtain ⟨d,hd,hkd⟩:=kOf_ok hk
  obtain rfl:=kind_slice hkd
  split at h
  ·rename_i n hn
   obtain ⟨inf,hi,hin⟩:=szOf_ok hn
   split at h
   ·rename_i hb
    obtain ⟨rfl,hb⟩:=hb
    split at h
    ·rename_i cs hcs
     simp at h; subst h
     have hlt:i.toNat < xs.length:=(List.getElem?_eq_some_iff.1 hcs).1
     cases hx with
     | list _ _ b o c f hl hs hI hv =>
      refine ⟨.pointer (some ⟨b,o + i.toNat * n + 0,none⟩),?_,?_⟩
      ·have:i < (xs.length:Int):=by omega
       simp [Instr.indexAt,asIntOf,run_und hd,hb,this,run_size hi,add_eq,hin]
      ·exact .ref cs 0 b (o + i.toNat * n) (fun j=>f i.toNat j) (fun j v e=>hI _ _ j v hcs e) (fun j v e=>hv _ _ j v hcs e)
     | list0=>simp at hlt
    ·simp at h
   ·simp at h
  ·simp at h
 ·rename_i m e hk
  obtain ⟨d,hd,hkd⟩:=kOf_ok hk
  obtain rfl:=kind_array hkd
  split at h
  ·rename_i n hn
   obtain ⟨inf,hi,hin⟩:=szOf_ok hn
   split at h
   ·rename_i hb
    obtain ⟨a,rfl,ha,hy⟩:=shift_ok h hx
    exact ⟨_,by simp [Instr.indexAt,asIntOf,run_und hd,Instr.sureAddr,hb,run_size hi,hin],hy⟩
   ·simp at h
  ·simp at h
 ·simp at h
def evIndexAddr (P:Program) (t:TypeId) (x:AV) (i:Int):Option AV :=
 match x with
 | .lst sz m f=>match kOf P t with
  | some (.slice e)=>match szOf P e with
   | some n=>if n = sz∧0≤i∧i < m then some (.ref (f i.toNat) 0) else none
   | none=>none
  | _=>none
 | x=>evIndexAddr0 P t x i
theorem range_get {f:Nat→List AV} {m i:Nat} (h:i < m):((List.range m).map f)[i]? = some (f i):=by
 rw [List.getElem?_map,List.getElem?_range h]; rfl
theorem run_indexAt {t:TypeId} {x v:AV} {y:Value} {k:IntKind} {i:Int} (h:evIndexAddr P t x i = some v) (hx:VR g x y) (w:World):∃ z,(Instr.indexAt t y (.int k i)).run P w = .ok z w∧VR g v z:=by
 unfold evIndexAddr at h
 split at h
 ·rename_i sz m f
  split at h
  ·rename_i e hk
   split at h
   ·rename_i n hn
    split at h
    ·rename_i hb
     obtain ⟨rfl,h0,h1⟩:=hb
     simp at h; subst h
     cases hx with
     | lst _ _ _ _ e' =>
      refine run_indexAt0 (x:=.list n ((List.range m).map f)) ?_ e' w
      unfold evIndexAddr0
      simp only [hk,hn,h0,and_self,if_true]
      rw [range_get (by omega)]
    ·simp at h
   ·simp at h
  ·simp at h
 ·exact run_indexAt0 h hx w
def evIndex (P:Program) (t:TypeId) (x:AV) (i:Int):Option AV :=
 match x with
 | .str s=>match kOf P t with
  | some .string=>if 0≤i then (match s[i.toNat]? with | some b=>some (.int .u8 (b.toNat:Int)) | none=>none) else none
  | _=>none
 | .agg cs=>match kOf P t with
  | some (.array m e)=>match szOf P e with
   | some n=>if 0≤i∧i < m then partAV P e cs (i.toNat * n) else none
   | none=>none
  | _=>none
 | _=>none
theorem run_index {t:TypeId} {x v:AV} {y:Value} {k:IntKind} {i:Int} (h:evIndex P t x i = some v) (hx:VR g x y) (w:World):∃ z,(Instr.index t y (.int k i)).run P w = .ok z w∧VR g v z:=by
 unfold evIndex at h
 split at h
 ·split at h
  ·rename_i s hk
   obtain ⟨d,hd,hkd⟩:=kOf_ok hk
   obtain rfl:=kind_string hkd
   split at h
   ·rename_i hb
    split at h
    ·rename_i b hsb
     simp at h; subst h
     cases hx
     exact ⟨_,by simp [Instr.index,asIntOf,run_und hd,hb,hsb],.int _ _⟩
    ·simp at h
   ·simp at h
  ·simp at h
 ·split at h
  ·rename_i cs m e hk
   obtain ⟨d,hd,hkd⟩:=kOf_ok hk
   obtain rfl:=kind_array hkd
   split at h
   ·rename_i n hn
    obtain ⟨inf,hi,hin⟩:=szOf_ok hn
    split at h
    ·rename_i hb
     cases hx with
     | agg _ xs e1 hxs =>
      obtain ⟨z,hz,hvz⟩:=run_part h (vrs_of_arr e1 hxs) w
      exact ⟨z,by simp [Instr.index,asIntOf,run_und hd,hb,run_size hi,hin,hz],hvz⟩
    ·simp at h
   ·simp at h
  ·simp at h
 ·simp at h
def evLen (P:Program) (t:TypeId) (x:AV):Option AV :=
 match kOf P t,x with
 | some .string,.str s=>some (.int .i64 s.size)
 | some (.slice _),.slice _ _ n _=>some (.int .i64 n)
 | some (.slice _),.list _ xs=>some (.int .i64 xs.length)
 | some (.slice _),.lst _ n _=>some (.int .i64 n)
 | some (.slice _),.nilSlice=>some (.int .i64 0)
 | some (.array n _),_=>some (.int .i64 n)
 | _,_=>none
theorem run_len {t ty:TypeId} {x v:AV} {y:Value} (h:evLen P t x = some v) (hx:VR g x y) (w:World):∃ z,(Builtin.len_ #[t] ty #[y]).run P w = .ok z w∧VR g v z:=by
 unfold evLen at h
 split at h <;> simp at h <;> subst h <;> rename_i hk <;> obtain ⟨d,hd,hkd⟩:=kOf_ok hk
 ·obtain rfl:=kind_string hkd
  cases hx; exact ⟨_,by simp [Builtin.len_,run_und hd,goInt],.int _ _⟩
 ·obtain rfl:=kind_slice hkd
  cases hx <;> exact ⟨_,by simp [Builtin.len_,run_und hd,goInt],.int _ _⟩
 ·obtain rfl:=kind_slice hkd
  cases hx <;> exact ⟨_,by simp [Builtin.len_,run_und hd,goInt],.int _ _⟩
 ·obtain rfl:=kind_slice hkd
  cases hx with
  | lst sz n f x e =>
   obtain ⟨a,c,rfl⟩:=e.list_len
   exact ⟨_,by simp [Builtin.len_,run_und hd,goInt],.int _ _⟩
 ·obtain rfl:=kind_slice hkd
  cases hx; exact ⟨_,by simp [Builtin.len_,run_und hd,goInt],.int _ _⟩
 ·obtain rfl:=kind_array hkd
  exact ⟨_,by simp [Builtin.len_,run_und hd,goInt],.int _ _⟩
def fillAV (place:Nat→Option (Nat × Nat)):List AV→List (Nat × AV)→Option (List AV)
 | cs,[]=>some cs
 | cs,(i,v) :: rest=>match place i with
  | some (off,n)=>if v.known = true∧v.cells.length = n∧off + n≤cs.length then fillAV place (setAll cs off v.cells) rest else none
  | none=>none
theorem VRs.set {vs:List AV} {ys:List Value} (h:VRs g vs ys) (j:Nat) {v:AV} {y:Value} (hv:VR g v y):VRs g (vs.set j v) (ys.set j y):=by
 refine ⟨by simp [h.1],fun k u z a b=>?_⟩
 rw [List.getElem?_set] at a b
 rw [← h.1] at b
 split at a
 ·rename_i e; rw [if_pos e] at b
  split at a
  ·rename_i e2; rw [if_pos e2] at b; simp at a b; subst a b; exact hv
  ·simp at a
 ·rename_i e; rw [if_neg e] at b; exact h.2 k u z a b
theorem fold_cells (off:Nat):∀ (vs:List AV) (ys:List Value) (k:Nat) (cs:List AV) (arr:Array Value),VRs g vs ys→VRs g cs arr.toList →
  VRs g (setAll cs (off + k) vs) ((ys.zipIdx k).foldl (fun (a:Array Value) (x:Value × Nat)=>a.setIfInBounds (off + x.2) x.1) arr).toList
 | [],ys,k,cs,arr,h,hc=>by rw [h.nil_inv]; simpa [setAll] using hc
 | v :: vs,ys,k,cs,arr,h,hc=>by
  obtain ⟨y,ys,rfl,hy,hys⟩:=h.cons_inv
  simp only [setAll,List.zipIdx_cons,List.foldl_cons]
  have:=fold_cells off vs ys (k + 1) (cs.set (off + k) v) (arr.setIfInBounds (off + k) y) hys (by
   have:=hc.set (off + k) hy
   simpa [Array.toList_setIfInBounds] using this)
  simpa [Nat.add_assoc] using this
theorem fill_ok {pl:Nat→Option (Nat × Nat)}:∀ (ps:List (Nat × AV)) (qs:List (Nat × Value)) (cs cs':List AV) (arr:Array Value),fillAV pl cs ps = some cs'→VRs g cs arr.toList →
  ps.length = qs.length→(∀ (j:Nat) p q,ps[j]? = some p→qs[j]? = some q→p.1 = q.1∧VR g p.2 q.2)→∃ arr',Instr.fill pl arr qs = some arr'∧VRs g cs' arr'.toList
 | [],qs,cs,cs',arr,h,hc,hl,hq=>by
  simp [fillAV] at h; subst h
  have:qs = []:=List.eq_nil_of_length_eq_zero (by simpa using hl.symm)
  subst this
  exact ⟨arr,rfl,hc⟩
 | (i,v) :: ps,qs,cs,cs',arr,h,hc,hl,hq=>by
  cases qs with
  | nil=>simp at hl
  | cons q qs =>
   obtain ⟨e1,e2⟩:=hq 0 _ _ rfl rfl
   obtain ⟨i',x⟩:=q
   simp only at e1 e2
   subst e1
   simp only [fillAV] at h
   split at h
   ·rename_i off n hp
    split at h
    ·rename_i hcond
     obtain ⟨hk,hn,hle⟩:=hcond
     have hx:=cells_ok hk e2
     have hxn:x.cells.size = n:=by rw [← hn]; simpa using hx.1.symm
     have hcs:arr.size = cs.length:=by simpa using hc.1.symm
     have hfold:=fold_cells off v.cells x.cells.toList 0 cs arr hx hc
     simp only [Nat.add_zero] at hfold
     have e:(x.cells.zipIdx.foldl (fun cs (x:Value × Nat)=>cs.setIfInBounds (off + x.2) x.1) arr) = ((x.cells.toList.zipIdx 0).foldl (fun (a:Array Value) (x:Value × Nat)=>a.setIfInBounds (off + x.2) x.1) arr):=by
      rw [← Array.foldl_toList,Array.toList_zipIdx]
     obtain ⟨arr',ha,hv⟩:=fill_ok ps qs _ cs' _ h hfold (by simpa using hl) (fun j p q a b=>hq (j + 1) p q (by simpa using a) (by simpa using b))
     refine ⟨arr',?_,hv⟩
     simp only [Instr.fill,hp]
     rw [if_neg (by simp only [hxn,hcs,ne_eq,not_true_eq_false,decide_false,Bool.false_or,decide_eq_true_eq]; omega),e]
     exact ha
    ·simp at h
   ·simp at h
end
end Go.SL
