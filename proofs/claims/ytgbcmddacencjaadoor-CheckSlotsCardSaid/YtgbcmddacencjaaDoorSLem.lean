import Derived.Test.YtgbcmddacencjaaDoorSLam
import Derived.Deep.AppendSrc
import Derived.Laws.StructEq
set_option linter.unusedSimpArgs false
set_option linter.unusedVariables false
namespace Go.SL
open Go.RowKit
section
variable {P:Program} {E:Env} {F:Nat→Prop} {hm:Nat→Option Blk} {g:G} {w:World} {id:Nat}
def evSlice0 (P:Program) (t:TypeId) (x:AV) (lo hi:Int):Option AV :=
 match kOf P t,x with
 | some .string,.str s=>if 0≤lo∧lo≤hi∧hi≤s.size then some (.str (s.extract lo.toNat hi.toNat)) else none
 | some (.slice e),.slice l off len sz=>if szOf P e = some sz∧0≤lo∧lo≤hi∧hi≤len then some (.slice l (off + lo.toNat * sz) (hi.toNat - lo.toNat) sz) else none
 | some (.slice e),.list sz xs=>if szOf P e = some sz∧0≤lo∧lo≤hi∧hi≤xs.length then some (.list sz ((xs.take hi.toNat).drop lo.toNat)) else none
 | _,_=>none
theorem run_sliceBound {k:IntKind} {i:Int} {y:Nat} {c:BoundsCode} (h0:0≤i) (h1:i≤y) (w:World):(Instr.sliceBound (.int k i) y c).run P w = .ok i.toNat w:=by
 simp [Instr.sliceBound,asIntOf,h0,h1]
def loI:Option Int→Int | some i=>i | none=>0
def optV (k:IntKind):Option Int→Option Value | some i=>some (.int k i) | none=>none
theorem run_sliceBounds {kl kh:IntKind} {lo hi:Option Int} {len cap:Nat} (b:Bool) (hl:len≤cap) (h0:0≤loI lo) (h1:loI lo≤hi.getD len) (h2:hi.getD len≤cap) (w:World) :
  (Instr.sliceBounds b len cap (optV kl lo) (optV kh hi) none).run P w = .ok ((loI lo).toNat,(hi.getD len).toNat,cap) w:=by
 cases hi with
 | none =>
  simp only [Option.getD_none] at h1 h2
  cases lo with
  | none=>simp [Instr.sliceBounds,optV,loI]
  | some l=>simp only [loI] at h0 h1; simp [Instr.sliceBounds,optV,loI,run_sliceBound h0 h1]
 | some hh =>
  simp only [Option.getD_some] at h1 h2
  have hh0:0≤hh:=by omega
  cases lo with
  | none=>simp [Instr.sliceBounds,optV,loI,run_sliceBound hh0 h2]
  | some l =>
   simp only [loI] at h0 h1
   have e:((hh.toNat:Nat):Int) = hh:=by omega
   simp [Instr.sliceBounds,optV,loI,run_sliceBound hh0 h2,run_sliceBound h0 (show l≤((hh.toNat:Nat):Int) by omega)]
def evSlice (P:Program) (t:TypeId) (x:AV) (lo hi:Int):Option AV :=
 match x with
 | .lst sz m f=>match kOf P t with
  | some (.slice e)=>if szOf P e = some sz∧0≤lo∧lo≤hi∧hi≤m then some (.lst sz (hi.toNat - lo.toNat) (fun k=>f (lo.toNat + k))) else none
  | _=>none
 | x=>evSlice0 P t x lo hi
def lenAV:AV→Option Nat
 | .str s=>some s.size
 | .slice _ _ n _=>some n
 | .list _ xs=>some xs.length
 | .lst _ n _=>some n
 | _=>none
theorem run_slice0 {t:TypeId} {x v:AV} {y:Value} {kl kh:IntKind} {lo hi:Option Int} {n:Nat} (hn:lenAV x = some n) (h:evSlice0 P t x (loI lo) (hi.getD n) = some v) (hx:VR g x y) (w:World) :
  ∃ z,(Instr.sliceAt t y (optV kl lo) (optV kh hi) none).run P w = .ok z w∧VR g v z:=by
 unfold evSlice0 at h
 split at h
 ·rename_i s hk
  obtain ⟨d,hd,hkd⟩:=kOf_ok hk
  obtain rfl:=kind_string hkd
  split at h
  ·rename_i hb
   simp [lenAV] at hn; subst hn
   simp at h; subst h
   cases hx
   have hbd:=run_sliceBounds (P:=P) (kl:=kl) (kh:=kh) false (Nat.le_refl s.size) hb.1 hb.2.1 hb.2.2 w
   refine ⟨_,?_,.str _⟩
   simp [Instr.sliceAt,run_und hd,Instr.slice,hbd]
  ·simp at h
 ·rename_i e l off len sz hk
  obtain ⟨d,hd,hkd⟩:=kOf_ok hk
  obtain rfl:=kind_slice hkd
  split at h
  ·rename_i hb
   obtain ⟨hsz,hb⟩:=hb
   obtain ⟨inf,hi',hin⟩:=szOf_ok hsz
   simp [lenAV] at hn; subst hn
   simp at h; subst h
   cases hx with
   | slice _ _ _ _ c p e1 e2 e3 e4 =>
    have hbd:=run_sliceBounds (P:=P) (kl:=kl) (kh:=kh) true e2 hb.1 hb.2.1 (by omega) w
    have hlo:(loI lo).toNat≤c:=by omega
    by_cases hc:c = (loI lo).toNat
    ·refine ⟨.slice (some ⟨p.block,p.base + off,none⟩) 0 0,?_,?_⟩
     ·have:(hi.getD ↑len).toNat - (loI lo).toNat = 0:=by omega
      simp only [Instr.sliceAt,Instr.slice,Sem.run_bind,run_und hd,Result.andThen_ok,hbd,run_size hi',this]
      simp [hc]
     ·have:(hi.getD ↑len).toNat - (loI lo).toNat = 0:=by omega
      rw [this]
      exact .sliceZ l _ sz _ p e1 (by rw [← hc]; exact e3) rfl
    ·refine ⟨.slice (some ⟨p.block,p.base + (off + (loI lo).toNat * sz),none⟩) ((hi.getD ↑len).toNat - (loI lo).toNat) (c - (loI lo).toNat),?_,?_⟩
     ·simp only [Instr.sliceAt,Instr.slice,Sem.run_bind,run_und hd,Result.andThen_ok,hbd,run_size hi']
      simp [hc,add_eq,hin,Nat.add_assoc]
     ·have hm:(loI lo).toNat * sz + (c - (loI lo).toNat) * sz = c * sz:=by rw [← Nat.add_mul]; congr 1; omega
      exact .slice l _ _ sz _ p e1 (by omega) (by omega) (by omega)
   | slice0 _ _ e1 =>
    have hbd:=run_sliceBounds (P:=P) (kl:=kl) (kh:=kh) (lo:=lo) (hi:=hi) true (Nat.le_refl 0) hb.1 (by simpa using hb.2.1) (by simpa using hb.2.2) w
    have h1:(loI lo).toNat = 0:=by have:=hb.2.1; have:=hb.2.2; simp at *; omega
    have h2:(hi.getD ((0:Nat):Int)).toNat = 0:=by have:=hb.2.2; omega
    refine ⟨.slice none 0 0,?_,?_⟩
    ·simp only [Instr.sliceAt,Instr.slice,Sem.run_bind,run_und hd,Result.andThen_ok,hbd,run_size hi',h1,h2]
     simp
    ·rw [h1,h2]; simpa using VR.slice0 l sz e1
   | sliceZ _ _ _ a p e1 e2 ea =>
    have hbd:=run_sliceBounds (P:=P) (kl:=kl) (kh:=kh) (lo:=lo) (hi:=hi) true (Nat.le_refl 0) hb.1 (by simpa using hb.2.1) (by simpa using hb.2.2) w
    have h1:(loI lo).toNat = 0:=by have:=hb.2.1; have:=hb.2.2; simp at *; omega
    have h2:(hi.getD ((0:Nat):Int)).toNat = 0:=by have:=hb.2.2; omega
    refine ⟨.slice (some a) 0 0,?_,?_⟩
    ·simp only [Instr.sliceAt,Instr.slice,Sem.run_bind,run_und hd,Result.andThen_ok,hbd,run_size hi',h1,h2]
     simp
    ·rw [h1,h2]; simpa using VR.sliceZ l off sz a p e1 e2 ea
   | sliceN _ _ a e1 ea =>
    have hbd:=run_sliceBounds (P:=P) (kl:=kl) (kh:=kh) (lo:=lo) (hi:=hi) true (Nat.le_refl 0) hb.1 (by simpa using hb.2.1) (by simpa using hb.2.2) w
    have h1:(loI lo).toNat = 0:=by have:=hb.2.1; have:=hb.2.2; simp at *; omega
    have h2:(hi.getD ((0:Nat):Int)).toNat = 0:=by have:=hb.2.2; omega
    refine ⟨.slice (some a) 0 0,?_,?_⟩
    ·simp only [Instr.sliceAt,Instr.slice,Sem.run_bind,run_und hd,Result.andThen_ok,hbd,run_size hi',h1,h2]
     simp
    ·rw [h1,h2]; simpa using VR.sliceN l sz a e1 ea
  ·simp at h
 ·rename_i e sz xs hk
  obtain ⟨d,hd,hkd⟩:=kOf_ok hk
  obtain rfl:=kind_slice hkd
  split at h
  ·rename_i hb
   obtain ⟨hsz,hb⟩:=hb
   obtain ⟨inf,hi',hin⟩:=szOf_ok hsz
   simp [lenAV] at hn; subst hn
   simp at h; subst h
   have hlen:((xs.take (hi.getD xs.length).toNat).drop (loI lo).toNat).length = (hi.getD xs.length).toNat - (loI lo).toNat:=by simp; omega
   cases hx with
   | list _ _ b o c f e1 e2 e3 e4 =>
    have hbd:=run_sliceBounds (P:=P) (kl:=kl) (kh:=kh) true e1 hb.1 hb.2.1 (by omega) w
    by_cases hc:c = (loI lo).toNat
    ·have h0:((xs.take (hi.getD xs.length).toNat).drop (loI lo).toNat) = []:=List.eq_nil_of_length_eq_zero (by omega)
     refine ⟨.slice (some ⟨b,o,none⟩) 0 0,?_,?_⟩
     ·have:(hi.getD xs.length).toNat - (loI lo).toNat = 0:=by omega
      simp only [Instr.sliceAt,Instr.slice,Sem.run_bind,run_und hd,Result.andThen_ok,hbd,run_size hi',this]
      simp [hc]
     ·rw [h0]
      exact VR.list sz [] b o 0 f (by simp) (by simp) (by simp) (by simp)
    ·refine ⟨.slice (some ⟨b,o + (loI lo).toNat * sz,none⟩) ((hi.getD xs.length).toNat - (loI lo).toNat) (c - (loI lo).toNat),?_,?_⟩
     ·simp only [Instr.sliceAt,Instr.slice,Sem.run_bind,run_und hd,Result.andThen_ok,hbd,run_size hi']
      simp [hc,add_eq,hin]
     ·rw [← hlen]
      have hget:∀ (i:Nat) cs,((xs.take (hi.getD xs.length).toNat).drop (loI lo).toNat)[i]? = some cs→xs[(loI lo).toNat + i]? = some cs:=by
       intro i cs e
       rw [List.getElem?_drop,List.getElem?_take] at e
       split at e
       ·exact e
       ·simp at e
      refine .list sz _ b _ _ (fun i j=>f ((loI lo).toNat + i) j) (by omega) (fun cs hcs=>e2 cs (List.mem_of_mem_take (List.mem_of_mem_drop hcs))) (fun i cs j v a c'=>?_) (fun i cs j v a c'=>e4 _ _ _ _ (hget i cs a) c')
      have:=e3 _ _ _ _ (hget i cs a) c'
      rwa [Nat.add_mul,← Nat.add_assoc] at this
   | list0 =>
    have hbd:=run_sliceBounds (P:=P) (kl:=kl) (kh:=kh) (lo:=lo) (hi:=hi) true (Nat.le_refl 0) hb.1 (by simpa using hb.2.1) (by simpa using hb.2.2) w
    have hlast:=hb.2.2
    simp only [List.length_nil] at hlast
    have h1:(loI lo).toNat = 0:=by have:=hb.2.1; simp only [List.length_nil] at this; omega
    have h2:(hi.getD ((0:Nat):Int)).toNat = 0:=by omega
    refine ⟨.slice none 0 0,?_,?_⟩
    ·simp only [Instr.sliceAt,Instr.slice,Sem.run_bind,run_und hd,Result.andThen_ok,hbd,run_size hi',h1,h2]
     simp
    ·simpa using VR.list0 sz
  ·simp at h
 ·simp at h
theorem range_part (f:Nat→List AV) {m lo hi:Nat} (h:hi≤m):(((List.range m).map f).take hi).drop lo = (List.range (hi - lo)).map fun k=>f (lo + k):=by
 apply List.ext_getElem?
 intro i
 rw [List.getElem?_drop,List.getElem?_take]
 by_cases hi':i < hi - lo
 ·rw [if_pos (by omega),range_get (by omega),List.getElem?_map,List.getElem?_range hi']; rfl
 ·by_cases h2:lo + i < hi
  ·omega
  ·rw [if_neg h2,List.getElem?_map,List.getElem?_eq_none (by simp; omega)]; rfl
theorem run_slice {t:TypeId} {x v:AV} {y:Value} {kl kh:IntKind} {lo hi:Option Int} {n:Nat} (hn:lenAV x = some n) (h:evSlice P t x (loI lo) (hi.getD n) = some v) (hx:VR g x y) (w:World) :
  ∃ z,(Instr.sliceAt t y (optV kl lo) (optV kh hi) none).run P w = .ok z w∧VR g v z:=by
 unfold evSlice at h
 split at h
 ·rename_i sz m f
  split at h
  ·rename_i e hk
   split at h
   ·rename_i hb
    simp at h; subst h
    simp [lenAV] at hn; subst hn
    cases hx with
    | lst _ _ _ _ e' =>
     have hl:((List.range m).map f).length = m:=by simp
     have:=run_slice0 (P:=P) (g:=g) (t:=t) (x:=.list sz ((List.range m).map f)) (kl:=kl) (kh:=kh) (lo:=lo) (hi:=hi) (n:=m) (v:=.list sz ((((List.range m).map f).take (hi.getD m).toNat).drop (loI lo).toNat)) (by simp [lenAV]) (by
      unfold evSlice0
      simp only [hk,hl]
      rw [if_pos hb]) e' w
     obtain ⟨z,h1,h2⟩:=this
     refine ⟨z,h1,.lst _ _ _ _ ?_⟩
     rwa [range_part f (by omega)] at h2
   ·simp at h
  ·simp at h
 ·exact run_slice0 hn h hx w
end
end Go.SL
namespace Go.SL
open Go.RowKit
section
variable {P:Program} {E:Env} {F:Nat→Prop} {hm:Nat→Option Blk} {g:G} {w:World} {id:Nat}
def elems (hm:Nat→Option Blk) (sz:Nat):AV→Option (List AV × Nat)
 | .slice l off len sz'=>match hm l with
  | some (.row _ cs)=>if sz' = sz∧off + len * sz≤cs.length then some ((cs.drop off).take (len * sz),len) else none
  | _=>none
 | .list sz' xs=>if sz' = sz then some (xs.flatten,xs.length) else none
 | .lst sz' n f=>if sz' = sz then some (((List.range n).map f).flatten,n) else none
 | .nilSlice=>some ([],0)
 | _=>none
theorem flatten_len {sz:Nat}:∀ {xs:List (List AV)},(∀ cs ∈ xs,cs.length = sz)→xs.flatten.length = xs.length * sz
 | [],_=>by simp
 | x :: xs,h=>by
  have:=flatten_len (xs:=xs) (fun cs hc=>h cs (by simp [hc]))
  have h0:=h x (by simp)
  simp [this,h0,Nat.add_mul]; omega
theorem flatten_get {sz:Nat}:∀ {xs:List (List AV)},(∀ cs ∈ xs,cs.length = sz)→∀ (k:Nat) v,xs.flatten[k]? = some v→∃ i j cs,xs[i]? = some cs∧cs[j]? = some v∧k = i * sz + j
 | [],_,k,v,h=>by simp at h
 | x :: xs,hs,k,v,h=>by
  have h0:=hs x (by simp)
  simp only [List.flatten_cons] at h
  by_cases hk:k < x.length
  ·rw [List.getElem?_append_left hk] at h
   exact ⟨0,k,x,rfl,h,by simp⟩
  ·rw [List.getElem?_append_right (by omega)] at h
   obtain ⟨i,j,cs,h1,h2,h3⟩:=flatten_get (xs:=xs) (fun cs hc=>hs cs (by simp [hc])) _ _ h
   exact ⟨i + 1,j,cs,by simpa using h1,h2,by rw [Nat.add_mul]; omega⟩
theorem elems_list (h:Mem P E F hm g w) {sz:Nat} {xs:List (List AV)} {y:Value} (hx:VR g (.list sz xs) y) :
  ∃ b c ys,y = .slice b xs.length c∧xs.length≤c∧VRs g xs.flatten ys∧xs.flatten.length = xs.length * sz∧((∃ a,b = some a∧a.spot = none∧∀ (j:Nat) v,ys[j]? = some v→w.cell? ⟨a.block,a.off + j,none⟩ = some v)∨(b = none∧xs.length = 0∧c = 0)):=by
 cases hx with
 | list _ _ b o c f e1 e2 e3 e4 =>
  have hlen:=flatten_len e2
  refine ⟨_,c,(List.range xs.flatten.length).map (fun k=>(g.I b (o + k)).getD undef),rfl,e1,⟨by simp,fun k v x a d=>?_⟩,hlen,.inl ⟨_,rfl,rfl,fun k v d=>?_⟩⟩
  ·have hk:k < xs.flatten.length:=(List.getElem?_eq_some_iff.1 a).1
   obtain ⟨i,j,cs,h1,h2,rfl⟩:=flatten_get e2 k v a
   rw [List.getElem?_map,List.getElem?_range hk] at d
   have:=e3 i cs j v h1 h2
   rw [Nat.add_assoc] at this
   simp only [Option.map_some,this,Option.getD_some,Option.some.injEq] at d; subst d
   exact (e4 i cs j v h1 h2).mono (G.im_le g)
  ·have hk:k < xs.flatten.length:=by have:=(List.getElem?_eq_some_iff.1 d).1; simpa using this
   obtain ⟨i,j,cs,h1,h2,rfl⟩:=flatten_get e2 k _ (List.getElem?_eq_getElem hk)
   have:=e3 i cs j _ h1 h2
   rw [Nat.add_assoc] at this
   rw [List.getElem?_map,List.getElem?_range hk] at d
   simp only [Option.map_some,this,Option.getD_some,Option.some.injEq] at d
   subst d
   exact h.imm _ _ _ this
 | list0=>exact ⟨none,0,[],rfl,Nat.le_refl _,VRs.nil g,by simp,.inr ⟨rfl,rfl,rfl⟩⟩
theorem elems_ok (h:Mem P E F hm g w) {sz n:Nat} {x:AV} {y:Value} {ns:List AV} (he:elems hm sz x = some (ns,n)) (hx:VR g x y) :
  ∃ b c ys,y = .slice b n c∧n≤c∧VRs g ns ys∧ns.length = n * sz∧((∃ a,b = some a∧a.spot = none∧∀ (j:Nat) v,ys[j]? = some v→w.cell? ⟨a.block,a.off + j,none⟩ = some v)∨(b = none∧n = 0∧c = 0)):=by
 unfold elems at he
 split at he
 ·rename_i l off len sz'
  split at he
  ·rename_i ty cs hl
   split at he
   ·rename_i hb
    obtain ⟨rfl,hb⟩:=hb
    simp only [Option.some.injEq,Prod.mk.injEq] at he
    obtain ⟨rfl,rfl⟩:=he
    have hlen:((cs.drop off).take (len * sz')).length = len * sz':=by simp; omega
    cases hx with
    | slice _ _ _ _ c p e1 e2 e3 e4 =>
     obtain ⟨_,ys,h1,h2⟩:=row_cells h hl e1
     refine ⟨_,c,(ys.drop off).take (len * sz'),rfl,e2,(h1.drop off).take _,hlen,.inl ⟨_,rfl,rfl,fun j v e=>?_⟩⟩
     rw [List.getElem?_take] at e
     split at e
     ·have:=h2 (off + j) v (by simpa using e); simpa [Nat.add_assoc] using this
     ·simp at e
    | slice0 _ _ e1=>exact ⟨none,0,[],rfl,Nat.le_refl _,by simpa using VRs.nil g,hlen,.inr ⟨rfl,rfl,rfl⟩⟩
    | sliceZ _ _ _ a p e1 e2 ha=>exact ⟨some a,0,[],rfl,Nat.le_refl _,by simpa using VRs.nil g,hlen,.inl ⟨a,rfl,ha,by simp⟩⟩
    | sliceN _ _ a e1 ha=>exact ⟨some a,0,[],rfl,Nat.le_refl _,by simpa using VRs.nil g,hlen,.inl ⟨a,rfl,ha,by simp⟩⟩
   ·simp at he
  ·simp at he
 ·rename_i sz' xs
  split at he
  ·rename_i hs
   subst hs
   simp only [Option.some.injEq,Prod.mk.injEq] at he
   obtain ⟨rfl,rfl⟩:=he
   exact elems_list h hx
  ·simp at he
 ·rename_i sz' m f
  split at he
  ·rename_i hs
   subst hs
   simp only [Option.some.injEq,Prod.mk.injEq] at he
   obtain ⟨rfl,rfl⟩:=he
   cases hx with
   | lst _ _ _ _ e' =>
    have:=elems_list h e'
    simpa using this
  ·simp at he
 ·simp only [Option.some.injEq,Prod.mk.injEq] at he
  obtain ⟨rfl,rfl⟩:=he
  cases hx
  exact ⟨none,0,[],rfl,Nat.le_refl _,VRs.nil g,by simp,.inr ⟨rfl,rfl,rfl⟩⟩
 ·simp at he
theorem run_firstCells {sz n c:Nat} {b:Option Addr} {ys:List Value} (hl:ys.length = n * sz)
  (hb:(∃ a,b = some a∧a.spot = none∧∀ (j:Nat) v,ys[j]? = some v→w.cell? ⟨a.block,a.off + j,none⟩ = some v)∨(b = none∧n = 0∧c = 0)) (w':World) (hw:w'.heap = w.heap) :
  (Builtin.firstCells sz n (.slice b n c)).run P w' = .ok ys.toArray w':=by
 rcases hb with ⟨a,rfl,ha,hc⟩ | ⟨rfl,rfl,rfl⟩
 ·have:=run_loadCells_list (P:=P) w' a ys (fun j v e=>by rw [add_eq ha]; have:=hc j v e; simpa [World.cell?,hw] using this)
  rw [hl] at this
  simpa [Builtin.firstCells] using this
 ·have:ys = []:=List.eq_nil_of_length_eq_zero (by simpa using hl)
  subst this
  simp [Builtin.firstCells]
def bytesL (s:ByteArray):List AV:=s.data.toList.map fun b=>.int .u8 b.toNat
theorem bytesL_len (s:ByteArray):(bytesL s).length = s.size:=by
 simp [bytesL]
theorem bytesL_vrs (s:ByteArray):VRs g (bytesL s) (byteCells s):=by
 refine ⟨by simp [bytesL,byteCells],fun j v x a b=>?_⟩
 simp only [bytesL,byteCells,List.getElem?_map,Option.map_eq_some_iff] at a b
 obtain ⟨u,hu,rfl⟩:=a
 obtain ⟨u',hu',rfl⟩:=b
 rw [hu] at hu'; simp at hu'; subst hu'
 exact .int _ _
def elemsX (k:TK) (hm:Nat→Option Blk) (sz:Nat) (x:AV):Option (List AV × Nat) :=
 match k,x with
 | .slice _,x=>elems hm sz x
 | .string,.str s=>if sz = 1 then some (bytesL s,s.size) else none
 | _,_=>none
theorem elemsX_ok (h:Mem P E F hm g w) {sz n:Nat} {t2:TypeId} {k:TK} (hk:kOf P t2 = some k) {x:AV} {y:Value} {ns:List AV} (he:elemsX k hm sz x = some (ns,n)) (hx:VR g x y) :
  ∃ ys,VRs g ns ys∧ns.length = n * sz∧(∀ w':World,w'.heap = w.heap→(Builtin.firstCells sz n y).run P w' = .ok ys.toArray w')∧(∀ w':World,(Builtin.lenOf y).run P w' = .ok n w')∧((∃ e2,P.underlying t2 = some (.slice e2))∨P.underlying t2 = some .string):=by
 obtain ⟨d2,hd2,hkd2⟩:=kOf_ok hk
 unfold elemsX at he
 split at he
 ·rename_i e2
  obtain rfl:=kind_slice hkd2
  obtain ⟨b,c,ys,rfl,hmc,hys,hnl,hb⟩:=elems_ok h he hx
  have hyl:ys.length = n * sz:=by rw [← hys.1]; exact hnl
  exact ⟨ys,hys,hnl,fun w' hw=>run_firstCells (P:=P) (c:=c) hyl hb w' hw,fun _=>rfl,.inl ⟨_,hd2⟩⟩
 ·rename_i s
  obtain rfl:=kind_string hkd2
  split at he
  ·rename_i h1
   subst h1
   simp only [Option.some.injEq,Prod.mk.injEq] at he
   obtain ⟨rfl,rfl⟩:=he
   cases hx
   exact ⟨byteCells s,bytesL_vrs s,by rw [bytesL_len,Nat.mul_one],fun w' _=>firstCells_string s w',fun _=>rfl,.inr hd2⟩
  ·simp at he
 ·simp at he
theorem run_append_room' {t t2 ty e:TypeId} {i:TypeInfo} (ht:P.underlying t = some (.slice e)) (ht2:(∃ e2,P.underlying t2 = some (.slice e2))∨P.underlying t2 = some .string) (hi:P.info? e = some i)
  {base:Option Addr} {sLen sCap n:Nat} {xx:Value} (hx:∀ w':World,(Builtin.lenOf xx).run P w' = .ok n w') {new:Array Value} (hn:(Builtin.firstCells i.size n xx).run P w = .ok new w) (hroom:sLen + n≤sCap) {w':World}
  (hst:∀ a,base = some a→(storeCells (a.add (sLen * i.size)) new.toList).run P w = .ok () w') (hno:base = none→w' = w) :
  (Builtin.append_ #[t,t2] ty #[.slice base sLen sCap,xx]).run P w = .ok (.slice base (sLen + n) sCap) w':=by
 rcases ht2 with ⟨e2,ht2⟩ | ht2 <;>
 ·simp only [Builtin.append_,run_und ht,run_und ht2,run_size hi,Sem.run_bind,Result.andThen_ok,Sem.run_pure,hx,List.getElem?_toArray,List.getElem?_cons_zero,List.getElem?_cons_succ,Bool.false_eq_true,if_false,hroom,if_true,hn,Bool.not_false]
  cases base with
  | none=>simp [hno rfl]
  | some a=>simp [hst a rfl]
theorem run_append_grow' {t t2 ty e:TypeId} {i:TypeInfo} {z:Value} (ht:P.underlying t = some (.slice e)) (ht2:(∃ e2,P.underlying t2 = some (.slice e2))∨P.underlying t2 = some .string) (hi:P.info? e = some i) (hz:i.zero = some z)
  {base:Option Addr} {sLen sCap n:Nat} {xx:Value} (hx:∀ w':World,(Builtin.lenOf xx).run P w' = .ok n w') {new old:Array Value} (hn:∀ w',w'.heap = w.heap→(Builtin.firstCells i.size n xx).run P w' = .ok new w')
  (ho:∀ w',w'.heap = w.heap→(Builtin.firstCells i.size sLen (.slice base sLen sCap)).run P w' = .ok old w')
  (hg:sCap < sLen + n) (h63:sLen + n≤9223372036854775807) (hpos:0 < i.bytes) (hfit:(sLen + n) * i.bytes≤140737488355328) :
  ∃ cap,sLen + n≤cap∧(Builtin.append_ #[t,t2] ty #[.slice base sLen sCap,xx]).run P w =
   .ok (.slice (some ⟨w.heap.size,0,none⟩) (sLen + n) cap) (w.drew.alloc (.cells (old ++ new ++ Builtin.zeroCells z.cells (cap - (sLen + n))) e)):=by
 have h1:¬ (sLen + n≤sCap):=by omega
 have h2:¬ (9223372036854775807 < ((sLen:Int) + (n:Int))):=by omega
 have hfit':=growslice_fits hg hfit
 have h3:¬ (281474976710656 < Builtin.nextslicecap (sLen + n) sCap * i.bytes):=by omega
 refine ⟨grownCap w (sLen + n) sCap e,grownCap_ge _ _ _ _,?_⟩
 have hn':=hn w.drew rfl
 have ho':=ho w.drew rfl
 have hb0:i.bytes ≠ 0:=by omega
 rcases ht2 with ⟨e2,ht2⟩ | ht2 <;>
 ·simp [Builtin.append_,run_und ht,run_und ht2,run_size hi,run_info hi,run_zero hi hz,hx,h1,h2,h3,hb0,Question.forced,newRow,grownCap]
  rw [ho']
  simp [hn',heap_drew]
def evAppend (P:Program) (t t2:TypeId) (hm:Nat→Option Blk) (id:Nat) (s x:AV):Option Out :=
 match kOf P t,kOf P t2 with
 | some (.slice e),some k2=>match tiOf P e with
  | some ti=>match elemsX k2 hm ti.size x with
   | some (ns,m) =>
    match s with
    | .nilSlice=>if (0 < ti.bytes∧m * ti.bytes≤140737488355328)∧exB P e = false then some ⟨.slice id 0 m ti.size,[(id,some (.row e ns))],1⟩ else none
    | .slice l off len sz=>match hm l with
     | some (.row ty cs) =>
      if (sz = ti.size∧0 < ti.size∧0 < ti.bytes∧ty = e∧exB P e = false)∧(AV.ones ns = true∧off + len * sz≤cs.length∧(len + m) * ti.bytes≤140737488355328) then
       some ⟨.slice id 0 (len + m) sz,[(l,none),(id,some (.row e ((cs.drop off).take (len * sz) ++ ns)))],1⟩
      else none
     | _=>none
    | _=>none
   | none=>none
  | none=>none
 | _,_=>none
theorem ones_append:∀ {a b:List AV},AV.ones (a ++ b) = (AV.ones a && AV.ones b)
 | [],b=>by simp [AV.ones]
 | v :: a,b=>by simp [AV.ones,ones_append (a:=a),Bool.and_assoc]
theorem mem_room (h:Mem P E F hm g w) {l off n:Nat} {e:TypeId} {cs ns:List AV} {p:Pl} {arr:Array Value} {ys:List Value} (hid:F id) (hl:hm l = some (.row e cs)) (hp:g.μ l = some (some p))
  (hb:w.heap[p.block]? = some (.cells arr e (0,0))) (hns:VRs g ns ys) (hoff:off + n≤cs.length) (hfit:p.base + (off + n) + ns.length≤p.lim) (hnex:¬ ExTy P e) :
  ∃ g',g.le g'∧g'.μ id = some (some ⟨p.block,p.base + off,((cs.drop off).take n ++ ns).length,p.lim⟩) ∧
   Mem P E (minus F id 1) (upd (upd hm l none) id (some (.row e ((cs.drop off).take n ++ ns)))) g' (w.setRow p.block (arr.toList.take (p.base + (off + n)) ++ ys ++ arr.toList.drop (p.base + (off + n) + ys.length)).toArray):=by
 have hdl:((cs.drop off).take n).length = n:=by simp; omega
 rcases h.blk l _ hl with ⟨q,arr',hq,hb',h1,h2,h3,h4⟩ | ⟨hq,_⟩
 ·rw [hp] at hq; simp at hq; subst hq
  rw [hb] at hb'; simp at hb'; subst hb'
  have hfr:=h.fresh id hid
  have hne:l ≠ id:=by rintro rfl; rw [hfr] at hp; simp at hp
  have hlen:=hns.1
  let p':Pl:=⟨p.block,p.base + off,((cs.drop off).take n ++ ns).length,p.lim⟩
  let g':G:=⟨upd g.μ id (some (some p')),g.I⟩
  have hle:g.le g':=⟨fun k d e=>by
   show upd g.μ id _ k = _
   by_cases hk:k = id
   ·subst hk; rw [hfr] at e; simp at e
   ·rw [upd_ne _ _ hk]; exact e,fun b o x e=>e⟩
  have hμ:g'.μ id = some (some p'):=upd_same _ _ _
  have hheap:=setRow_heap w p.block arr (arr.toList.take (p.base + (off + n)) ++ ys ++ arr.toList.drop (p.base + (off + n) + ys.length)).toArray e (0,0) hb
  have hs:(arr.toList.take (p.base + (off + n))).length = p.base + (off + n):=by simp; omega
  have hget:∀ j,(arr.toList.take (p.base + (off + n)) ++ ys ++ arr.toList.drop (p.base + (off + n) + ys.length))[j]? = if p.base + (off + n)≤j∧j < p.base + (off + n) + ys.length then ys[j - (p.base + (off + n))]? else arr[j]?:=by
   intro j
   by_cases c1:j < p.base + (off + n)
   ·rw [List.append_assoc,List.getElem?_append_left (by omega),List.getElem?_take,if_pos c1,if_neg (by omega)]; simp
   ·by_cases c2:j < p.base + (off + n) + ys.length
    ·rw [List.append_assoc,List.getElem?_append_right (by omega),hs,List.getElem?_append_left (by omega),if_pos (by omega)]
    ·rw [List.getElem?_append_right (by simp; omega),if_neg (by omega)]
     simp only [List.length_append,hs,List.getElem?_drop]
     rw [show p.base + (off + n) + ys.length + (j - (p.base + (off + n) + ys.length)) = j by omega]
     simp
  have hsz:(arr.toList.take (p.base + (off + n)) ++ ys ++ arr.toList.drop (p.base + (off + n) + ys.length)).length = arr.size:=by simp; omega
  refine ⟨g',hle,hμ,?_⟩
  refine h.step (F':=minus F id 1) (g':=g') id _ p' hle rfl ?_ rfl rfl rfl (by simp) (fun b hbn hlt=>setRow_other w _ _ _ hbn) hμ ?_ ?_ (upd_same _ _ _) ?_ (fun ty' cs' e' he=>by simp at e'; obtain ⟨rfl,rfl⟩:=e'; exact absurd he hnex)
  ·intro k hk
   refine ⟨hk.1,upd_ne _ _ fun e=>hk.2 ⟨by omega,by omega⟩⟩
  ·refine .inl ⟨l,_,p,hl,hp,rfl,Nat.le_add_right _ _,.inr ?_,fun o ho=>?_⟩
   ·rw [upd_ne _ _ hne]; exact upd_same _ _ _
   ·simp only [World.cell?,hheap,hb,p']
    simp only [Option.isSome_none,Bool.false_eq_true,if_false,List.getElem?_toArray]
    simp only [p'] at ho
    rw [hget o,if_neg (by omega)]
  ·refine .inl ⟨p',_,hμ,hheap,by simpa using hsz.trans h1,?_,rfl,fun j v e=>?_⟩
   ·simp only [p',List.length_append,hdl]; omega
   ·simp only [List.getElem?_toArray,p']
    rw [hget]
    by_cases c:j < ((cs.drop off).take n).length
    ·rw [List.getElem?_append_left c,List.getElem?_take] at e
     rw [hdl] at c
     rw [if_pos c,List.getElem?_drop] at e
     rw [if_neg (by omega),Nat.add_assoc]
     obtain ⟨x,ex,hx⟩:=h4 _ v e
     exact ⟨x,ex,hx.mono hle⟩
    ·rw [List.getElem?_append_right (by omega)] at e
     have hj:j - ((cs.drop off).take n).length < ns.length:=(List.getElem?_eq_some_iff.1 e).1
     rw [hdl] at c e hj
     rw [if_pos (by omega),show p.base + off + j - (p.base + (off + n)) = j - n by omega]
     obtain ⟨x,ex,hx⟩:=hns.get e
     exact ⟨x,ex,hx.mono hle⟩
  ·intro k hk B' e
   rw [upd_ne _ _ hk] at e
   by_cases hk2:k = l
   ·subst hk2; rw [upd_same] at e; simp at e
   ·rw [upd_ne _ _ hk2] at e; exact e
 ·rw [hp] at hq; simp at hq
theorem mem_move (h:Mem P E F hm g w) {l off n:Nat} {e:TypeId} {cs:List AV} {p:Pl} (hid:F id) (hl:hm l = some (.row e cs)) (hp:g.μ l = some (some p)) (hoff:off + n≤cs.length) (hnex:¬ ExTy P e) :
  ∃ g',g.le g'∧g'.I = g.I∧g'.μ id = some (some ⟨p.block,p.base + off,n,p.lim⟩)∧Mem P E (minus F id 1) (upd (upd hm l none) id (some (.row e ((cs.drop off).take n)))) g' w:=by
 have hdl:((cs.drop off).take n).length = n:=by simp; omega
 rcases h.blk l _ hl with ⟨q,arr,hq,hb,h1,h2,h3,h4⟩ | ⟨hq,_⟩
 ·rw [hp] at hq; simp at hq; subst hq
  have hfr:=h.fresh id hid
  have hne:l ≠ id:=by rintro rfl; rw [hfr] at hp; simp at hp
  let p':Pl:=⟨p.block,p.base + off,n,p.lim⟩
  let g':G:=⟨upd g.μ id (some (some p')),g.I⟩
  have hle:g.le g':=⟨fun k d e=>by
   show upd g.μ id _ k = _
   by_cases hk:k = id
   ·subst hk; rw [hfr] at e; simp at e
   ·rw [upd_ne _ _ hk]; exact e,fun b o x e=>e⟩
  have hμ:g'.μ id = some (some p'):=upd_same _ _ _
  refine ⟨g',hle,rfl,hμ,?_⟩
  refine h.step (F':=minus F id 1) (g':=g') id _ p' hle rfl ?_ rfl rfl rfl (Nat.le_refl _) (fun b hbn hlt=>rfl) hμ ?_ ?_ (upd_same _ _ _) ?_ (fun ty' cs' e' he=>by simp at e'; obtain ⟨rfl,rfl⟩:=e'; exact absurd he hnex)
  ·intro k hk
   refine ⟨hk.1,upd_ne _ _ fun e=>hk.2 ⟨by omega,by omega⟩⟩
  ·refine .inl ⟨l,_,p,hl,hp,rfl,Nat.le_add_right _ _,.inr ?_,fun o ho=>rfl⟩
   rw [upd_ne _ _ hne]; exact upd_same _ _ _
  ·refine .inl ⟨p',arr,hμ,hb,h1,?_,hdl,fun j v e=>?_⟩
   ·simp only [p',hdl]; omega
   ·rw [List.getElem?_take] at e
    split at e
    ·rw [List.getElem?_drop] at e
     obtain ⟨x,ex,hx⟩:=h4 _ v e
     exact ⟨x,by simpa only [p',Nat.add_assoc] using ex,hx.mono hle⟩
    ·simp at e
  ·intro k hk B' e
   rw [upd_ne _ _ hk] at e
   by_cases hk2:k = l
   ·subst hk2; rw [upd_same] at e; simp at e
   ·rw [upd_ne _ _ hk2] at e; exact e
 ·rw [hp] at hq; simp at hq
theorem mem_noplace (h:Mem P E F hm g w) {e:TypeId} (hid:F id) :
  ∃ g',g.le g'∧g'.I = g.I∧g'.μ id = some none∧Mem P E (minus F id 1) (upd hm id (some (.row e []))) g' w:=by
 have hfr:=h.fresh id hid
 let g':G:=⟨upd g.μ id (some none),g.I⟩
 have hle:g.le g':=⟨fun k d e=>by
  show upd g.μ id _ k = _
  by_cases hk:k = id
  ·subst hk; rw [hfr] at e; simp at e
  ·rw [upd_ne _ _ hk]; exact e,fun b o x e=>e⟩
 have hμ:g'.μ id = some none:=upd_same _ _ _
 have hdn:∀ k p,g'.μ k = some (some p)→g.μ k = some (some p):=fun k p hk=>by
  by_cases e:k = id
  ·subst e; rw [hμ] at hk; simp at hk
  ·have:g'.μ k = g.μ k:=upd_ne _ _ e
   rw [← this]; exact hk
 have hhm:∀ k B p,upd hm id (some (.row e [])) k = some B→g'.μ k = some (some p)→hm k = some B:=fun k B p hk hp=>by
  by_cases e:k = id
  ·subst e; rw [hμ] at hp; simp at hp
  ·rw [upd_ne _ _ e] at hk; exact hk
 refine ⟨g',hle,rfl,hμ,?_⟩
 exact { h with
  fresh:=fun l hl=>by
   have hne:l ≠ id:=fun e=>hl.2 ⟨by omega,by omega⟩
   have:g'.μ l = g.μ l:=upd_ne _ _ hne
   rw [this]; exact h.fresh l hl.1
  blk:=fun l B hl=>by
   by_cases e:l = id
   ·subst e; rw [upd_same] at hl; simp at hl; subst hl; exact .inr ⟨hμ,rfl⟩
   ·rw [upd_ne _ _ e] at hl; exact (h.blk l B hl).mono hle fun _ _=>rfl
  sep:=fun l l' B B' p p' a b hne hp hp'=>h.sep l l' B B' p p' (hhm l B p a hp) (hhm l' B' p' b hp') hne (hdn _ _ hp) (hdn _ _ hp')
  sepI:=fun l B p a hp=>h.sepI l B p (hhm l B p a hp) (hdn _ _ hp)
  le0:=G.le_trans h.le0 hle
  own:=fun l B p a hp=>h.own l B p (hhm l B p a hp) (hdn _ _ hp)
  exact:=fun l ty cs p a hp=>h.exact l ty cs p (hhm l _ p a hp) (hdn _ _ hp) }
theorem acts_append (h:Mem P E F hm g w) {t t2 ty:TypeId} {s x:AV} {xs xx:Value} {out:Out} (hev:evAppend P t t2 hm id s x = some out) (hF:∀ k,k < out.n→F (id + k)) (hs:VR g s xs) (hx:VR g x xx) :
  Acts P E F hm g w (Builtin.append_ #[t,t2] ty #[xs,xx]) id out:=by
 unfold evAppend at hev
 split at hev
 rotate_left
 ·simp at hev
 rename_i e e2 hk hk2
 obtain ⟨d,hd,hkd⟩:=kOf_ok hk
 obtain rfl:=kind_slice hkd
 split at hev
 rotate_left
 ·simp at hev
 rename_i ti hti
 obtain ⟨de,i,z,hde,hi,hz,hke,hsz,hby,hzv,hzl,hza⟩:=tiOf_ok hti
 split at hev
 rotate_left
 ·simp at hev
 rename_i ns m hel
 obtain ⟨ys,hys,hnl,hfc,hlx,hd2⟩:=elemsX_ok h hk2 hel hx
 rw [← hsz] at hnl hfc
 have hyl:ys.length = m * i.size:=by rw [← hys.1]; exact hnl
 have keep:∀ (base:Option Addr) (sLen sCap:Nat),m = 0→sLen≤sCap→(Builtin.append_ #[t,t2] ty #[.slice base sLen sCap,xx]).run P w = .ok (.slice base (sLen + m) sCap) w:=fun base sLen sCap hm0 hle=>by
  have hy0:ys = []:=List.eq_nil_of_length_eq_zero (by rw [hyl,hm0,Nat.zero_mul])
  subst hy0
  exact run_append_room' hd hd2 hi hlx (hfc w rfl) (by omega) (w':=w) (fun a _=>by simp [storeCells]) (fun _=>rfl)
 have hns0:m = 0→ns = []:=fun e=>List.eq_nil_of_length_eq_zero (by rw [hnl,e,Nat.zero_mul])
 have hdrop:∀ {l:Nat} {B:Option Blk} g' w',Mem P E (minus F id 1) (upd hm id B) g' w'→Mem P E (minus F id 1) (upd (upd hm l none) id B) g' w':=fun {l B} g' w' hM=>hM.hsub fun k B e=>by
  by_cases hk:k = id
  ·subst hk; rw [upd_same] at e ⊢; exact e
  ·rw [upd_ne _ _ hk] at e ⊢
   by_cases hk2:k = l
   ·subst hk2; rw [upd_same] at e; simp at e
   ·rw [upd_ne _ _ hk2] at e; exact e
 have grow:∀ (base:Option Addr) (sLen sCap:Nat) (os:List AV) (olds:List Value),VRs g os olds→olds.length = sLen * i.size →
   ((∃ a,base = some a∧a.spot = none∧∀ (j:Nat) v,olds[j]? = some v→w.cell? ⟨a.block,a.off + j,none⟩ = some v)∨(base = none∧sLen = 0∧sCap = 0))→sCap < sLen + m→0 < ti.bytes→(sLen + m) * ti.bytes≤140737488355328→F id→exB P e = false →
   ∃ x g' w',(Builtin.append_ #[t,t2] ty #[.slice base sLen sCap,xx]).run P w = .ok x w'∧VR g' (.slice id 0 (sLen + m) i.size) x∧g.le g'∧Mem P E (minus F id 1) (upd hm id (some (.row e (os ++ ns)))) g' w':=by
  intro base sLen sCap os olds hos hol hbase hcap hb0 hbb hFid hexe
  have h63:sLen + m≤9223372036854775807:=by
   have:(sLen + m) * 1≤(sLen + m) * ti.bytes:=Nat.mul_le_mul_left _ hb0
   omega
  obtain ⟨cap,hcap',hr⟩:=run_append_grow' (ty:=ty) (w:=w) hd hd2 hi hz hlx (fun w' hw=>hfc w' hw) (fun w' hw=>run_firstCells (P:=P) hol hbase w' hw) hcap h63 (by omega) (by rw [hby]; exact hbb)
  have hM:=h.same (w':=w.drew) rfl rfl rfl rfl
  have hlen:(os ++ ns).length = (sLen + m) * i.size:=by rw [List.length_append,hos.1,hol,hnl,Nat.add_mul]
  have hzs:z.cells.size = i.size:=by have:=(hzv g).1; rw [hzl,hsz.symm] at this; simpa using this.symm
  obtain ⟨g',hle,hI,hμ,hM'⟩:=mem_new (hm:=hm) (id:=id) hM hFid (ty:=e) (cs:=os ++ ns) (arr:=olds.toArray ++ ys.toArray ++ Builtin.zeroCells z.cells (cap - (sLen + m)))
   (by
    have:=hos.append hys
    have e:(olds.toArray ++ ys.toArray ++ Builtin.zeroCells z.cells (cap - (sLen + m))).toList.take (os ++ ns).length = olds ++ ys:=by
     simp only [Array.toList_append,List.append_assoc]
     rw [← List.append_assoc]
     rw [List.take_left' (by rw [List.length_append,List.length_append,hos.1,hys.1])]
    rw [e]; exact this)
   (by simp [hos.1,hys.1]) (fun hx=>by rw [ExTy,hexe] at hx; simp at hx) (w':=w.drew.alloc (.cells (olds.toArray ++ ys.toArray ++ Builtin.zeroCells z.cells (cap - (sLen + m))) e)) rfl rfl rfl rfl
  refine ⟨_,g',_,hr,?_,hle,hM'⟩
  have hzc:(Builtin.zeroCells z.cells (cap - (sLen + m))).size = (cap - (sLen + m)) * z.cells.size:=by simp [Builtin.zeroCells]
  refine .slice id 0 _ i.size cap _ hμ hcap' ?_ ?_
  ·simp only [hlen]; rw [Nat.zero_add]; exact Nat.mul_le_mul_right _ hcap'
  ·simp only [Nat.zero_add,Array.size_append,hzc,hzs,List.size_toArray,hol,hyl]
   rw [← Nat.add_mul,← Nat.add_mul]
   exact Nat.mul_le_mul_right _ (by omega)
 split at hev
 ·split at hev
  ·rename_i hc
   simp at hev; subst hev
   cases hs
   have hFid:F id:=by simpa using hF 0 (by simp)
   by_cases hm0:m = 0
   ·obtain ⟨g',hle,_,hμ,hM⟩:=mem_noplace h (e:=e) hFid
    refine ⟨_,g',_,keep none 0 0 hm0 (Nat.le_refl _),?_,hle,?_⟩
    ·subst hm0; exact .slice0 id _ hμ
    ·rw [hns0 hm0]; exact hM
   ·have:=grow none 0 0 [] [] (VRs.nil g) (by simp) (.inr ⟨rfl,rfl,rfl⟩) (by omega) hc.1.1 (by rw [Nat.zero_add]; exact hc.1.2) hFid hc.2
    simpa [Acts,applyS,hsz] using this
  ·simp at hev
 ·rename_i l off len sz
  split at hev
  ·rename_i tyr cs hl
   split at hev
   ·rename_i hc
    obtain ⟨⟨rfl,hs0,hb0,rfl,hexe⟩,hones,hend,hbb⟩:=hc
    simp at hev; subst hev
    have hones':∀ y ∈ ys,y.oneCell' = true:=ones_ok hones hys
    have hadd:(len + m) * ti.size = len * ti.size + m * ti.size:=Nat.add_mul _ _ _
    rw [hsz] at hyl hnl
    have hFid:F id:=by simpa using hF 0 (by simp)
    have hnex:¬ ExTy P tyr:=fun hx=>by rw [ExTy,hexe] at hx; simp at hx
    have hdl:((cs.drop off).take (len * ti.size)).length = len * ti.size:=by simp; omega
    cases hs with
    | slice _ _ _ _ cap p e1 e2' e3 e4 =>
     rcases h.blk l _ hl with ⟨q,arr,hq,hblk,h1,h2,h3,h4⟩ | ⟨hq,_⟩
     ·rw [e1] at hq; simp at hq; subst hq
      by_cases hcap:len + m≤cap
      ·have hcm:(len + m) * ti.size≤cap * ti.size:=Nat.mul_le_mul_right _ hcap
       have hst:=run_storeCells_at P p.block (p.base + (off + len * ti.size)) tyr ys 0 arr w hblk (by omega) hones'
       simp only [Nat.add_zero] at hst
       have hr:=run_append_room' (ty:=ty) hd hd2 hi hlx (hfc w rfl) hcap (base:=some ⟨p.block,p.base + off,none⟩) (fun a ha=>by
        simp at ha; subst ha
        rw [add_eq rfl,hsz]
        dsimp only
        rw [Nat.add_assoc]
        exact hst) (fun e=>by simp at e)
       obtain ⟨g',hle,hμ,hM⟩:=mem_room h (off:=off) (n:=len * ti.size) hFid hl e1 hblk hys (by omega) (by omega) hnex
       refine ⟨_,g',_,hr,?_,hle,hM⟩
       have e0:p.base + off = p.base + off + 0:=rfl
       rw [e0]
       refine VR.slice (g:=g') id 0 (len + m) ti.size cap ⟨p.block,p.base + off,((cs.drop off).take (len * ti.size) ++ ns).length,p.lim⟩ hμ hcap ?_ ?_
       ·simp only [List.length_append,hdl]; omega
       ·dsimp only; omega
      ·have hrc:=CellsAt.drop (row_cells h hl e1) off
       rw [add_eq rfl] at hrc
       obtain ⟨_,olds,ho1,ho2⟩:=hrc
       have hol:(olds.take (len * ti.size)).length = len * i.size:=by rw [← (ho1.take _).1,hdl,hsz]
       obtain ⟨x,g',w',hr,hv,hle,hM⟩:=grow (some ⟨p.block,p.base + off,none⟩) len cap ((cs.drop off).take (len * ti.size)) (olds.take (len * ti.size)) (ho1.take _) hol (.inl ⟨_,rfl,rfl,fun j v e=>by
        rw [List.getElem?_take] at e
        split at e
        ·exact ho2 j v e
        ·simp at e⟩) (by omega) hb0 hbb hFid hexe
       rw [hsz] at hv
       exact ⟨x,g',w',hr,hv,hle,hdrop _ _ hM⟩
     ·rw [e1] at hq; simp at hq
    | slice0 _ _ e1 =>
     by_cases hm0:m = 0
     ·obtain ⟨g',hle,_,hμ,hM⟩:=mem_noplace h (e:=tyr) hFid
      refine ⟨_,g',_,keep none 0 0 hm0 (Nat.le_refl _),?_,hle,?_⟩
      ·subst hm0; exact .slice0 id _ hμ
      ·rw [hns0 hm0]
       have:(cs.drop 0).take (0 * ti.size) ++ [] = []:=by simp
       rw [this]; exact hdrop _ _ hM
     ·obtain ⟨x,g',w',hr,hv,hle,hM⟩:=grow none 0 0 [] [] (VRs.nil g) (by simp) (.inr ⟨rfl,rfl,rfl⟩) (by omega) hb0 hbb hFid hexe
      rw [hsz] at hv
      exact ⟨x,g',w',hr,hv,hle,hdrop _ _ (by simpa using hM)⟩
    | sliceZ _ _ _ a p e1 e2' ea =>
     by_cases hm0:m = 0
     ·obtain ⟨g',hle,_,hμ,hM⟩:=mem_noplace h (e:=tyr) hFid
      refine ⟨_,g',_,keep (some a) 0 0 hm0 (Nat.le_refl _),?_,hle,?_⟩
      ·subst hm0; exact .sliceN id _ a hμ ea
      ·rw [hns0 hm0]
       have:(cs.drop off).take (0 * ti.size) ++ [] = []:=by simp
       rw [this]; exact hdrop _ _ hM
     ·obtain ⟨x,g',w',hr,hv,hle,hM⟩:=grow (some a) 0 0 [] [] (VRs.nil g) (by simp) (.inl ⟨a,rfl,ea,by simp⟩) (by omega) hb0 hbb hFid hexe
      rw [hsz] at hv
      exact ⟨x,g',w',hr,hv,hle,hdrop _ _ (by simpa using hM)⟩
    | sliceN _ _ a e1 ea =>
     by_cases hm0:m = 0
     ·obtain ⟨g',hle,_,hμ,hM⟩:=mem_noplace h (e:=tyr) hFid
      refine ⟨_,g',_,keep (some a) 0 0 hm0 (Nat.le_refl _),?_,hle,?_⟩
      ·subst hm0; exact .sliceN id _ a hμ ea
      ·rw [hns0 hm0]
       have:(cs.drop 0).take (0 * ti.size) ++ [] = []:=by simp
       rw [this]; exact hdrop _ _ hM
     ·obtain ⟨x,g',w',hr,hv,hle,hM⟩:=grow (some a) 0 0 [] [] (VRs.nil g) (by simp) (.inl ⟨a,rfl,ea,by simp⟩) (by omega) hb0 hbb hFid hexe
      rw [hsz] at hv
      exact ⟨x,g',w',hr,hv,hle,hdrop _ _ (by simpa using hM)⟩
   ·simp at hev
  ·simp at hev
 ·simp at hev
end
end Go.SL
namespace Go.SL
open Go.RowKit
section
variable {P:Program} {E:Env} {F:Nat→Prop} {hm:Nat→Option Blk} {g:G} {w:World} {id:Nat}
def placesOf (P:Program):List (Nat × TypeId)→Option (List (Nat × Nat))
 | []=>some []
 | (o,t) :: r=>match szOf P t,placesOf P r with | some n,some l=>some ((o,n) :: l) | _,_=>none
theorem run_places:∀ {fs:List Field} {l:List (Nat × Nat)},placesOf P (fs.map fun f=>(f.offset,f.type)) = some l→∀ w,(fs.mapM fun f=>(do pure (f.offset,← sizeOf f.type):Sem (Nat × Nat))).run P w = .ok l w
 | [],l,h,w=>by simp [placesOf] at h; subst h; simp
 | f :: fs,l,h,w=>by
  simp only [List.map_cons,placesOf] at h
  split at h
  ·rename_i n l' h1 h2
   simp at h; subst h
   obtain ⟨i,hi,hin⟩:=szOf_ok h1
   have:=run_places h2 w
   simp [List.mapM_cons,run_size hi,hin] at this ⊢
   simp [this]
  ·simp at h
def opds (ρ:Operand→Option AV):List (Nat × Operand)→Option (List (Nat × AV))
 | []=>some []
 | (i,x) :: r=>match ρ x,opds ρ r with | some v,some l=>some ((i,v) :: l) | _,_=>none
theorem opds_ok {ρ:Operand→Option AV} {σ:Operand→Value} (hρ:∀ x v,ρ x = some v→VR g v (σ x)):∀ {ps:List (Nat × Operand)} {l:List (Nat × AV)},opds ρ ps = some l →
  l.length = (ps.map fun x=>(x.1,σ x.2)).length∧∀ (j:Nat) p q,l[j]? = some p→(ps.map fun x=>(x.1,σ x.2))[j]? = some q→p.1 = q.1∧VR g p.2 q.2
 | [],l,h=>by simp [opds] at h; subst h; simp
 | (i,x) :: ps,l,h=>by
  simp only [opds] at h
  split at h
  ·rename_i v l' h1 h2
   simp at h; subst h
   obtain ⟨a,b⟩:=opds_ok hρ h2
   refine ⟨by simpa using a,fun j p q e1 e2=>?_⟩
   cases j with
   | zero=>simp at e1 e2; subst e1 e2; exact ⟨rfl,hρ _ _ h1⟩
   | succ j=>exact b j p q (by simpa using e1) (by simpa using e2)
  ·simp at h
def evBuild (P:Program) (t:TypeId) (ps:List (Nat × AV)):Option AV :=
 match tiOf P t with
 | some ti=>match ti.k with
  | .struct fs=>match placesOf P fs with
   | some pl=>match fillAV (fun i=>pl[i]?) ti.zero ps with | some cs=>some (.agg cs) | none=>none
   | none=>none
  | .array _ e=>match szOf P e with
   | some n=>match fillAV (fun i=>some (i * n,n)) ti.zero ps with | some cs=>some (.agg cs) | none=>none
   | none=>none
  | _=>none
 | none=>none
theorem run_build {t:TypeId} {ps:List (Nat × AV)} {qs:Array (Nat × Value)} {v:AV} (h:evBuild P t ps = some v) (hl:ps.length = qs.toList.length)
  (hq:∀ (j:Nat) p q,ps[j]? = some p→qs.toList[j]? = some q→p.1 = q.1∧VR g p.2 q.2) (w:World):∃ x,(Instr.build t qs).run P w = .ok x w∧VR g v x:=by
 unfold evBuild at h
 split at h
 ·rename_i ti hti
  obtain ⟨d,i,z,hd,hi,hz,hk,hs,hb,hzv,hzl,hza⟩:=tiOf_ok hti
  split at h
  ·rename_i fs hkk
   rw [hkk] at hk
   obtain ⟨fl,rfl,hfl⟩:=kind_struct hk
   split at h
   ·rename_i pl hpl
    split at h
    ·rename_i cs hcs
     simp at h; subst h
     obtain ⟨arr',ha,hv⟩:=fill_ok ps qs.toList _ cs z.cells hcs (hzv g) hl hq
     refine ⟨.agg arr',?_,.agg _ _ (by simpa using hv.1) fun j v x a b=>hv.2 j v x a (by simpa using b)⟩
     rw [← hfl] at hpl
     have hr:=run_places hpl w
     have:(fl.mapM fun f=>(do pure (f.offset,← sizeOf f.type):Sem (Nat × Nat))).run P w = .ok pl.toArray w:=by
      rw [Array.mapM_eq_mapM_toList,Sem.run_map,hr]; rfl
     simp only [Instr.build,Sem.run_bind,run_zero hi hz,run_und hd,Result.andThen_ok]
     rw [this]
     simp only [Result.andThen_ok]
     simp [ha]
    ·simp at h
   ·simp at h
  ·rename_i n e hkk
   rw [hkk] at hk
   obtain rfl:=kind_array hk
   split at h
   ·rename_i m hm'
    obtain ⟨ie,hie,hin⟩:=szOf_ok hm'
    split at h
    ·rename_i cs hcs
     simp at h; subst h
     obtain ⟨arr',ha,hv⟩:=fill_ok ps qs.toList _ cs z.cells hcs (hzv g) hl hq
     refine ⟨.agg arr',?_,.agg _ _ (by simpa using hv.1) fun j v x a b=>hv.2 j v x a (by simpa using b)⟩
     simp [Instr.build,run_zero hi hz,run_und hd,run_size hie,hin,ha]
    ·simp at h
   ·simp at h
  ·simp at h
 ·simp at h
def repZ:Nat→List AV→List AV
 | 0,_=>[]
 | n + 1,z=>z ++ repZ n z
theorem repZ_eq:∀ (n:Nat) (z:List AV),repZ n z = (List.replicate n z).flatten
 | 0,z=>rfl
 | n + 1,z=>by simp [repZ,repZ_eq n z,List.replicate_succ]
theorem repZ_ok {z:List AV} {zs:Array Value} (hz:VRs g z zs.toList) {sz n:Nat} (hs:z.length = sz):VRs g (repZ n z) ((Array.range (n * sz)).map (zs[· % zs.size]!)).toList:=by
 rw [repZ_eq]
 have hall:∀ cs ∈ List.replicate n z,cs.length = sz:=fun cs hc=>by rw [List.eq_of_mem_replicate hc]; exact hs
 have hzs:zs.size = sz:=by rw [← hs]; simpa using hz.1.symm
 refine ⟨by rw [flatten_len hall]; simp,fun k v x a b=>?_⟩
 obtain ⟨i,j,cs,h1,h2,rfl⟩:=flatten_get hall k v a
 have hcs:cs = z:=by
  have:=List.mem_of_getElem? h1
  exact List.eq_of_mem_replicate this
 subst hcs
 have hj:j < sz:=by rw [← hs]; exact (List.getElem?_eq_some_iff.1 h2).1
 obtain ⟨y,hy,hvy⟩:=hz.get h2
 have hi:i * sz + j < n * sz:=by
  have:i * sz + j < ((List.replicate n cs).flatten).length:=(List.getElem?_eq_some_iff.1 a).1
  rwa [flatten_len hall,List.length_replicate] at this
 have hmod:(i * sz + j) % zs.size = j:=by rw [hzs,Nat.mul_comm,Nat.mul_add_mod]; exact Nat.mod_eq_of_lt hj
 have hj2:zs[j]? = some y:=by simpa using hy
 simp [hi,hmod] at b
 subst b
 have:zs[j]! = y:=by simp [getElem!_def,hj2]
 rw [this]; exact hvy
def evBuildSlice (P:Program) (t:TypeId) (len:Nat) (ps:List (Nat × AV)) (id:Nat):Option Out :=
 match kOf P t with
 | some (.slice e)=>match tiOf P e with
  | some ti=>if len * ti.size≤16777216∧0 < ti.size∧0 < len then
    match fillAV (fun i=>some (i * ti.size,ti.size)) (repZ len ti.zero) ps with
    | some cs=>some ⟨.slice id 0 len ti.size,[(id,some (.row e cs))],1⟩
    | none=>none
   else if len = 0∧ps.isEmpty = true∧0 < ti.size then some ⟨.slice id 0 0 ti.size,[(id,some (.row e []))],1⟩ else none
  | none=>none
 | _=>none
theorem fillAV_length {pl:Nat→Option (Nat × Nat)}:∀ (ps:List (Nat × AV)) (cs cs':List AV),fillAV pl cs ps = some cs'→cs'.length = cs.length
 | [],cs,cs',h=>by simp [fillAV] at h; subst h; rfl
 | (i,v) :: ps,cs,cs',h=>by
  simp only [fillAV] at h
  split at h
  ·split at h
   ·have:=fillAV_length ps _ _ h; rw [this,setAll_length]
   ·simp at h
  ·simp at h
theorem acts_buildSlice (h:Mem P E F hm g w) {t:TypeId} {len:Nat} {ps:List (Nat × AV)} {qs:Array (Nat × Value)} {out:Out} (hev:evBuildSlice P t len ps id = some out) (hF:∀ k,k < out.n→F (id + k))
  (hl:ps.length = qs.toList.length) (hq:∀ (j:Nat) p q,ps[j]? = some p→qs.toList[j]? = some q→p.1 = q.1∧VR g p.2 q.2):Acts P E F hm g w (Instr.buildSlice t len qs) id out:=by
 unfold evBuildSlice at hev
 split at hev
 ·rename_i e hk
  obtain ⟨d,hd,hkd⟩:=kOf_ok hk
  obtain rfl:=kind_slice hkd
  split at hev
  ·rename_i ti hti
   obtain ⟨de,i,z,hde,hi,hz,hke,hs,hb,hzv,hzl,hza⟩:=tiOf_ok hti
   split at hev
   ·rename_i hc
    split at hev
    ·rename_i cs hcs
     simp at hev; subst hev
     have hpos:len * ti.size ≠ 0:=by have:=Nat.mul_pos hc.2.2 hc.2.1; omega
     obtain ⟨arr',ha,hv⟩:=fill_ok ps qs.toList _ cs _ hcs (repZ_ok (n:=len) (hzv g) hzl) hl hq
     obtain ⟨g',hle,hμ,hM⟩:=acts_row h (by simpa using hF 0 (by simp)) hv (ty:=e)
     have hlen:cs.length = len * ti.size:=by rw [fillAV_length _ _ _ hcs,repZ_eq,flatten_len (sz:=ti.size) (fun c hc'=>by rw [List.eq_of_mem_replicate hc']; exact hzl)]; simp
     have hsz:arr'.size = cs.length:=by simpa using hv.1.symm
     refine ⟨.slice (some ⟨w.heap.size,0,none⟩) len len,g',_,?_,?_,hle,hM⟩
     ·have h24:¬ (16777216 < len * i.size):=by rw [hs]; omega
      simp only [Instr.buildSlice,Sem.run_bind,run_und hd,Result.andThen_ok,run_size hi,hs]
      have h24':¬ (len * ti.size > 2 ^ 24):=by omega
      rw [if_neg h24']
      simp only [if_neg hpos,Sem.run_bind,Sem.run_pure,Result.andThen_ok,run_zero hi hz,Sem.run_map]
      simp only [ha]
      simp [newRow]
     ·refine .slice id 0 len ti.size len _ hμ (Nat.le_refl _) ?_ ?_
      ·simp [hlen]
      ·simp [hsz,hlen]
    ·simp at hev
   ·split at hev
    ·rename_i hc
     obtain ⟨rfl,hpe,hs0⟩:=hc
     simp at hev; subst hev
     have hps:ps = []:=by simpa using hpe
     subst hps
     have hqs:qs = #[]:=by
      have:qs.toList = []:=List.eq_nil_of_length_eq_zero (by simpa using hl.symm)
      exact Array.toList_eq_nil_iff.1 this
     subst hqs
     obtain ⟨g',hle,hμ,hM⟩:=acts_row h (by simpa using hF 0 (by simp)) (cs:=[]) (arr:=#[]) (VRs.nil g) (ty:=e)
     refine ⟨.slice (some ⟨w.heap.size,0,none⟩) 0 0,g',_,?_,?_,hle,hM⟩
     ·have e0:Array.range 0 = #[]:=rfl
      simp [Instr.buildSlice,run_und hd,run_size hi,Instr.fill,newRow,e0]
     ·exact .slice id 0 0 ti.size 0 _ hμ (Nat.le_refl _) (by simp) (by simp)
    ·simp at hev
  ·simp at hev
 ·simp at hev
def keyEq:AV→AV→Option Bool
 | .str a,.str b=>some (decide (a = b))
 | .int j a,.int k b=>if j = k then some (decide (a = b)) else none
 | .bool a,.bool b=>some (decide (a = b))
 | _,_=>none
def mpFind (k:AV):List (AV × AV)→Option (Option AV)
 | []=>some none
 | (a,v) :: r=>match keyEq k a with | some true=>some (some v) | some false=>mpFind k r | none=>none
def mpSet (k v:AV):List (AV × AV)→Option (List (AV × AV))
 | []=>some [(k,v)]
 | (a,u) :: r=>match keyEq k a with | some true=>some ((k,v) :: r) | some false=>(mpSet k v r).map ((a,u) :: ·) | none=>none
def keyKind:TK→AV→Bool
 | .string,.str _=>true | .int _,.int _ _=>true | .bool,.bool _=>true | _,_=>false
theorem sameNow_ok {d:TypeDesc} {k a:AV} {x y:Value} {r:Bool} (hk:keyKind (kindOf d) k = true) (h:keyEq k a = some r) (hx:VR g k x) (hy:VR g a y):Instr.sameNow d x y = some r:=by
 unfold keyEq at h
 split at h
 ·simp at h; subst h
  cases hx; cases hy
  cases d <;> simp [kindOf,keyKind] at hk
  simp only [Instr.sameNow,beq_toListBytes,bytes_beq]
 ·split at h
  ·simp at h; subst h
   cases hx; cases hy
   cases d <;> simp [kindOf,keyKind] at hk
   rename_i e _ ; subst e; simp only [Instr.sameNow,if_true]; rfl
  ·simp at h
 ·simp at h; subst h
  cases hx; cases hy
  cases d <;> simp [kindOf,keyKind] at hk
  simp only [Instr.sameNow]; rfl
 ·simp at h
theorem findNow_ok {d:TypeDesc} {k:AV} {x:Value} (hk:keyKind (kindOf d) k = true) (hx:VR g k x):∀ {es:List (AV × AV)} {r:Option AV} {ms:List MapEntry} {n:Nat},mpFind k es = some r→es.length = ms.length →
  (∀ (j:Nat) a v e,es[j]? = some (a,v)→ms[j]? = some e→VR g a e.key∧VR g v e.val) →
  match r with
  | none=>Instr.findNow d x ms n = some none
  | some v=>∃ j y e,Instr.findNow d x ms n = some (some (n + j,y))∧ms[j]? = some e∧e.val = y∧VR g v y
 | [],r,ms,n,h,hl,hq=>by
  simp [mpFind] at h; subst h
  have:ms = []:=List.eq_nil_of_length_eq_zero (by simpa using hl.symm)
  subst this; rfl
 | (a,v) :: es,r,ms,n,h,hl,hq=>by
  cases ms with
  | nil=>simp at hl
  | cons e ms =>
   obtain ⟨h1,h2⟩:=hq 0 a v e rfl rfl
   simp only [mpFind] at h
   split at h
   ·rename_i he
    simp at h; subst h
    have:=sameNow_ok hk he hx h1
    exact ⟨0,e.val,e,by simp [Instr.findNow,this],rfl,rfl,h2⟩
   ·rename_i he
    have hsn:=sameNow_ok hk he hx h1
    have ih:=findNow_ok hk hx (n:=n + 1) h (by simpa using hl) (fun j a v e p q=>hq (j + 1) a v e (by simpa using p) (by simpa using q))
    cases r with
    | none=>simpa [Instr.findNow,hsn] using ih
    | some u =>
     obtain ⟨j,y,e',q1,q2,q3,q4⟩:=ih
     refine ⟨j + 1,y,e',?_,by simpa using q2,q3,q4⟩
     simp only [Instr.findNow,hsn,q1]
     congr 3; omega
   ·simp at h
theorem run_checkKey {b:Bool} {t:TypeId} {d:TypeDesc} {k:AV} {x:Value} (hd:P.underlying t = some d) (hk:keyKind (kindOf d) k = true) (hx:VR g k x) (w:World):(Instr.checkKey b 10000 t x).run P w = .ok () w:=by
 have:∀ n,(Instr.checkKey b (n + 1) t x).run P w = .ok () w:=fun n=>by
  cases d <;> simp [kindOf] at hk <;> first
   | (cases k <;> simp [keyKind] at hk <;> cases hx <;> simp [Instr.checkKey,run_und hd]; done)
   | (cases k <;> simp [keyKind] at hk; done)
 exact this 9999
def entAV (hm:Nat→Option Blk):AV→Option (List (AV × AV))
 | .map l=>match hm l with | some (.mp es)=>some es | _=>none
 | .nilMap=>some []
 | _=>none
def evLookup (P:Program) (t:TypeId) (hm:Nat→Option Blk) (x k:AV) (ok:Bool):Option AV :=
 match kOf P t with
 | some (.map kt et)=>match kOf P kt,tiOf P et with
  | some kk,some ti=>if keyKind kk k = true then
    match (match entAV hm x with | some es=>mpFind k es | none=>none) with
    | some (some v)=>some (if ok then .tuple [v,.bool true] else v)
    | some none=>match (if ti.k.isAgg then some (AV.agg ti.zero) else ti.zero[0]?) with
     | some z=>some (if ok then .tuple [z,.bool false] else z)
     | none=>none
    | none=>none
   else none
  | _,_=>none
 | _=>none
theorem zero_ok {t:TypeId} {ti:TI} {z:AV} (hti:tiOf P t = some ti) (h:(if ti.k.isAgg then some (AV.agg ti.zero) else ti.zero[0]?) = some z) (w:World):∃ y,(zeroValue t).run P w = .ok y w∧VR g z y:=by
 obtain ⟨d,i,z',hd,hi,hz,hk,hs,hb,hzv,hzl,hza⟩:=tiOf_ok hti
 refine ⟨z',run_zero hi hz w,?_⟩
 have hv:=hzv g
 split at h
 ·rename_i ha
  simp at h; subst h
  rw [ha] at hza
  cases z' <;> simp [aggV] at hza
  exact .agg _ _ (by simpa [Value.cells] using hv.1) fun j v x a b=>hv.2 j v x a (by simpa [Value.cells] using b)
 ·rename_i ha
  have ha':ti.k.isAgg = false:=by simpa using ha
  rw [ha'] at hza
  have hc:z'.cells.toList = [z']:=by cases z' <;> simp [aggV] at hza <;> rfl
  rw [hc] at hv
  exact hv.2 0 z z' h rfl
theorem run_findKey {t:TypeId} {d:TypeDesc} {k:AV} {x:Value} (hd:P.underlying t = some d) (hk:keyKind (kindOf d) k = true) (hx:VR g k x) {es:List (AV × AV)} {r:Option AV} {ms:List MapEntry} (h:mpFind k es = some r) (hl:es.length = ms.length)
  (hq:∀ (j:Nat) a v e,es[j]? = some (a,v)→ms[j]? = some e→VR g a e.key∧VR g v e.val) (w:World) :
  match r with
  | none=>(Instr.findKey t x ms).run P w = .ok none w
  | some v=>∃ j y e,(Instr.findKey t x ms).run P w = .ok (some (j,y)) w∧ms[j]? = some e∧e.val = y∧VR g v y:=by
 have:=findNow_ok hk hx (n:=0) h hl hq
 cases r with
 | none=>simp only at this ⊢; simp [Instr.findKey,run_und hd,this]
 | some v =>
  obtain ⟨j,y,e,h1,h2,h3,h4⟩:=this
  refine ⟨j,y,e,?_,h2,h3,h4⟩
  simp [Instr.findKey,run_und hd,h1]
theorem ent_ok (h:Mem P E F hm g w) {x:AV} {es:List (AV × AV)} {y:Value} (he:entAV hm x = some es) (hx:VR g x y):∃ arr:Array MapEntry,((y = .map none∧arr = #[])∨∃ b cl,y = .map (some b)∧w.heap[b]? = some (.map arr cl))∧es.length = arr.toList.length ∧
  ∀ (j:Nat) a v e,es[j]? = some (a,v)→arr.toList[j]? = some e→VR g a e.key∧VR g v e.val:=by
 unfold entAV at he
 split at he
 ·rename_i l
  split at he
  ·rename_i es' hl
   simp at he; subst he
   cases hx with
   | map _ p e1 =>
    obtain ⟨q,arr,clock,hq,hb,h1,h2,h3⟩:=h.blk l _ hl
    rw [e1] at hq; simp at hq; subst hq
    exact ⟨arr,.inr ⟨_,clock,rfl,hb⟩,by rw [Array.length_toList]; exact h1.symm,fun j a v e p q=>h3 j a v e p (by simpa using q)⟩
  ·simp at he
 ·simp at he; subst he
  cases hx
  exact ⟨#[],.inl ⟨rfl,rfl⟩,rfl,fun j a v e p=>by simp at p⟩
 ·simp at he
theorem run_lookup (h:Mem P E F hm g w) {t:TypeId} {x k v:AV} {y z:Value} {ok:Bool} (hev:evLookup P t hm x k ok = some v) (hx:VR g x y) (hk:VR g k z):∃ u,(Instr.lookup t y z ok).run P w = .ok u w∧VR g v u:=by
 unfold evLookup at hev
 split at hev
 rotate_left
 ·simp at hev
 rename_i kt et hkt
 obtain ⟨d,hd,hkd⟩:=kOf_ok hkt
 obtain rfl:=kind_map hkd
 split at hev
 rotate_left
 ·simp at hev
 rename_i kk ti hkk hti
 obtain ⟨dk,hdk,hkdk⟩:=kOf_ok hkk
 split at hev
 rotate_left
 ·simp at hev
 rename_i hkind
 rw [← hkdk] at hkind
 have tup:∀ {v:AV} {u:Value} (b:Bool),VR g v u→VR g (.tuple [v,.bool b]) (.tuple #[u,.bool b]):=fun {v u} b hv=>by
  refine .tuple _ _ rfl fun j a c e1 e2=>?_
  match j with
  | 0=>simp at e1 e2; subst e1 e2; exact hv
  | 1=>simp at e1 e2; subst e1 e2; exact .bool b
  | j + 2=>simp at e1
 split at hev
 ·rename_i v' hf
  simp at hev; subst hev
  split at hf
  ·rename_i es he
   obtain ⟨arr,h1,h2,h3⟩:=ent_ok h he hx
   obtain ⟨j,u,e,q3,q4,q5,q6⟩:=run_findKey hdk hkind hk hf h2 h3 w
   refine ⟨if ok then .tuple #[u,.bool true] else u,?_,?_⟩
   ·rcases h1 with ⟨rfl,rfl⟩ | ⟨b,cl,rfl,hb⟩
    ·simp only [Instr.lookup,Sem.run_bind,run_und hd,Result.andThen_ok,Sem.run_pure,run_checkKey hdk hkind hk,q3]
    ·have hg:(getObj b).run P w = .ok (.map arr cl) w:=by simp [getObj,Sem.run,hb]
     simp only [Instr.lookup,Sem.run_bind,run_und hd,Result.andThen_ok,hg,Sem.run_pure,run_checkKey hdk hkind hk,q3]
   ·cases ok
    ·exact q6
    ·exact tup true q6
  ·simp at hf
 ·rename_i hf
  split at hf
  ·rename_i es he
   obtain ⟨arr,h1,h2,h3⟩:=ent_ok h he hx
   have q3:=run_findKey hdk hkind hk hf h2 h3 w
   split at hev
   ·rename_i zv hz
    simp at hev; subst hev
    obtain ⟨u,hu,hvu⟩:=zero_ok (g:=g) hti hz w
    refine ⟨if ok then .tuple #[u,.bool false] else u,?_,?_⟩
    ·rcases h1 with ⟨rfl,rfl⟩ | ⟨b,cl,rfl,hb⟩
     ·simp only [Instr.lookup,Sem.run_bind,run_und hd,Result.andThen_ok,Sem.run_pure,run_checkKey hdk hkind hk,q3,hu]
     ·have hg:(getObj b).run P w = .ok (.map arr cl) w:=by simp [getObj,Sem.run,hb]
      simp only [Instr.lookup,Sem.run_bind,run_und hd,Result.andThen_ok,hg,Sem.run_pure,run_checkKey hdk hkind hk,q3,hu]
    ·cases ok
     ·exact hvu
     ·exact tup false hvu
   ·simp at hev
  ·simp at hf
 ·simp at hev
theorem mem_newmap (h:Mem P E F hm g w) (hid:F id):∃ g',g.le g'∧g'.μ id = some (some ⟨w.heap.size,0,0,0⟩)∧Mem P E (minus F id 1) (upd hm id (some (.mp []))) g' { w with heap:=w.heap.push (.map #[] 0) }:=by
 have hfr:=h.fresh id hid
 let p:Pl:=⟨w.heap.size,0,0,0⟩
 let g':G:=⟨upd g.μ id (some (some p)),g.I⟩
 have hle:g.le g':=⟨fun l d e=>by
  show upd g.μ id _ l = _
  by_cases hl:l = id
  ·subst hl; rw [hfr] at e; simp at e
  ·rw [upd_ne _ _ hl]; exact e,fun b o x e=>e⟩
 have hμ:g'.μ id = some (some p):=upd_same _ _ _
 refine ⟨g',hle,hμ,?_⟩
 refine h.step (F':=minus F id 1) (g':=g') id (.mp []) p hle rfl ?_ rfl rfl rfl (by simp) ?_ hμ (.inr (Nat.le_refl _)) ?_ (upd_same _ _ _) ?_ (fun ty' cs' e he=>by simp at e)
 ·intro l hl
  exact ⟨hl.1,upd_ne _ _ fun e=>hl.2 ⟨by omega,by omega⟩⟩
 ·intro b hb hlt
  simp only [Array.getElem?_push]
  rw [if_neg (by omega)]
 ·exact ⟨p,#[],0,hμ,by simp [p],rfl,rfl,fun j k v e a=>by simp at a⟩
 ·intro k hk B' e
  rw [upd_ne _ _ hk] at e; exact e
theorem mpSet_ok {d:TypeDesc} {k v:AV} {x y:Value} (hk:keyKind (kindOf d) k = true) (hx:VR g k x) (hy:VR g v y):∀ {es es':List (AV × AV)} {ms:List MapEntry} {n:Nat},mpSet k v es = some es'→es.length = ms.length →
  (∀ (j:Nat) a v e,es[j]? = some (a,v)→ms[j]? = some e→VR g a e.key∧VR g v e.val) →
  (Instr.findNow d x ms n = some none∧es' = es ++ [(k,v)])∨(∃ j z e a u,Instr.findNow d x ms n = some (some (n + j,z))∧ms[j]? = some e∧es[j]? = some (a,u)∧keyEq k a = some true∧es' = es.set j (k,v))
 | [],es',ms,n,h,hl,hq=>by
  simp [mpSet] at h; subst h
  have:ms = []:=List.eq_nil_of_length_eq_zero (by simpa using hl.symm)
  subst this; exact .inl ⟨rfl,rfl⟩
 | (a,u) :: es,es',ms,n,h,hl,hq=>by
  cases ms with
  | nil=>simp at hl
  | cons e ms =>
   obtain ⟨h1,h2⟩:=hq 0 a u e rfl rfl
   simp only [mpSet] at h
   split at h
   ·rename_i he
    simp at h; subst h
    have:=sameNow_ok hk he hx h1
    exact .inr ⟨0,e.val,e,a,u,by simp [Instr.findNow,this],rfl,rfl,he,rfl⟩
   ·rename_i he
    have hsn:=sameNow_ok hk he hx h1
    cases hr:mpSet k v es with
    | none=>simp [hr] at h
    | some r =>
     simp [hr] at h; subst h
     rcases mpSet_ok hk hx hy (n:=n + 1) hr (by simpa using hl) (fun j a v e p q=>hq (j + 1) a v e (by simpa using p) (by simpa using q)) with ⟨i1,rfl⟩ | ⟨j,z,e',a',u',i1,i2,i3,i4,rfl⟩
     ·exact .inl ⟨by simpa [Instr.findNow,hsn] using i1,rfl⟩
     ·refine .inr ⟨j + 1,z,e',a',u',?_,by simpa using i2,by simpa using i3,i4,rfl⟩
      simp only [Instr.findNow,hsn,i1]
      congr 3; omega
   ·simp at h
def evMapSet (P:Program) (t:TypeId) (hm:Nat→Option Blk) (x k v:AV):Option Out :=
 match kOf P t,x with
 | some (.map kt _),.map l=>match kOf P kt,hm l with
  | some kk,some (.mp es)=>if keyKind kk k = true then (match mpSet k v es with | some es'=>some ⟨.any,[(l,some (.mp es'))],0⟩ | none=>none) else none
  | _,_=>none
 | _,_=>none
theorem same_key {k a:AV} {x y:Value} (h:keyEq k a = some true) (hx:VR g k x) (hy:VR g a y):y = x∧Instr.sameBits 10000 y x = true:=by
 have hsb:∀ n,Instr.sameBits n y x = true→Instr.sameBits 10000 y x = true∨True:=fun _ _=>.inr trivial
 unfold keyEq at h
 split at h
 ·simp at h; subst h; cases hx; cases hy; exact ⟨rfl,by simp only [Instr.sameBits]; rw [beq_toListBytes]; simp⟩
 ·split at h
  ·simp at h; subst h; cases hx; cases hy; rename_i e; subst e; exact ⟨rfl,by simp [Instr.sameBits]⟩
  ·simp at h
 ·simp at h; subst h; cases hx; cases hy; exact ⟨rfl,by simp [Instr.sameBits]⟩
 ·simp at h
theorem acts_mapSet (h:Mem P E F hm g w) {t:TypeId} {x k v:AV} {xx kx vx:Value} {out:Out} (hev:evMapSet P t hm x k v = some out) (hx:VR g x xx) (hk:VR g k kx) (hv:VR g v vx) :
  ∃ w',(Instr.mapUpdate t xx kx vx).run P w = .ok () w'∧Mem P E F (applyS hm out.set) g w'∧out.n = 0∧out.v = .any:=by
 unfold evMapSet at hev
 split at hev
 rotate_left
 ·simp at hev
 rename_i kt et l hkt
 obtain ⟨d,hd,hkd⟩:=kOf_ok hkt
 obtain rfl:=kind_map hkd
 split at hev
 rotate_left
 ·simp at hev
 rename_i kk es hkk hl
 obtain ⟨dk,hdk,hkdk⟩:=kOf_ok hkk
 split at hev
 rotate_left
 ·simp at hev
 rename_i hkind
 rw [← hkdk] at hkind
 split at hev
 rotate_left
 ·simp at hev
 rename_i es' hset
 simp at hev; subst hev
 cases hx with
 | map _ p e1 =>
  obtain ⟨q,arr,clock,hq,hb,h1,h2,h3⟩:=h.blk l _ hl
  rw [e1] at hq; simp at hq; subst hq
  have hlt:p.block < w.heap.size:=h.lt hl e1
  have turn:∀ (arr':Array MapEntry) (cl:Nat),arr'.size = es'.length→(∀ (j:Nat) a v e,es'[j]? = some (a,v)→arr'[j]? = some e→VR g a e.key∧VR g v e.val) →
    Mem P E F (upd hm l (some (.mp es'))) g { w with heap:=w.heap.setIfInBounds p.block (.map arr' cl) }:=by
   intro arr' cl hs' hq'
   refine h.step (F':=F) (g':=g) l (.mp es') p (G.le_refl g) rfl (fun l hl=>⟨hl,rfl⟩) rfl rfl rfl (by simp) ?_ e1 ?_ ?_ (upd_same _ _ _) (fun k hk B' e=>by rw [upd_ne _ _ hk] at e; exact e) (fun ty' cs' e he=>by simp at e)
   ·intro b hbn hbl
    simp only [Array.getElem?_setIfInBounds]
    rw [if_neg (by omega)]
   ·refine .inl ⟨l,_,p,hl,e1,rfl,Nat.le_refl _,.inl rfl,?_⟩
    intro o ho; omega
   ·exact ⟨p,arr',cl,e1,by simp [hlt],hs',h2,hq'⟩
  have hco:(getObj p.block).run P w = .ok (.map arr clock) w:=by simp [getObj,Sem.run,hb]
  have hstep:∀ ob,(setObj p.block ob).run P w = .ok () { w with heap:=w.heap.setIfInBounds p.block ob }:=fun ob=>by simp [setObj,Sem.run,hb]
  rcases mpSet_ok hkind hk hv (n:=0) hset (by rw [Array.length_toList]; exact h1.symm) (fun j a v e p q=>h3 j a v e p (by simpa using q)) with ⟨i1,rfl⟩ | ⟨j,z,e,a,u,i1,i2,i3,i4,rfl⟩
  ·refine ⟨_,?_,turn (arr.push { key:=kx,val:=vx,born:=clock }) (clock + 1) (by simp [h1]) ?_,rfl,rfl⟩
   ·simp only [Instr.mapUpdate,Sem.run_bind,run_und hd,Result.andThen_ok,hco,run_checkKey hdk hkind hk,Instr.findKey,run_und hdk,i1,Sem.run_pure,hstep]
   ·intro j' a v' e' q1 q2
    by_cases hj:j' < es.length
    ·rw [List.getElem?_append_left hj] at q1
     rw [Array.getElem?_push,if_neg (by omega)] at q2
     exact h3 j' a v' e' q1 q2
    ·rw [List.getElem?_append_right (by omega)] at q1
     have hj':j' = es.length:=by
      have:=(List.getElem?_eq_some_iff.1 q1).1; simp at this; omega
     subst hj'
     simp at q1
     obtain ⟨rfl,rfl⟩:=q1
     rw [Array.getElem?_push,if_pos h1.symm] at q2
     simp at q2; subst q2
     exact ⟨hk,hv⟩
  ·obtain ⟨hka,hva⟩:=h3 j a u e i3 (by simpa using i2)
   obtain ⟨hke,hsb⟩:=same_key i4 hk hka
   have hj:j < arr.size:=by have:=(List.getElem?_eq_some_iff.1 i2).1; simpa using this
   have harr:arr[j]? = some e:=by simpa using i2
   refine ⟨_,?_,turn (arr.modify j fun e=>{ e with key:=kx,val:=vx }) clock (by simp [h1]) ?_,rfl,rfl⟩
   ·simp only [Instr.mapUpdate,Sem.run_bind,run_und hd,Result.andThen_ok,hco,run_checkKey hdk hkind hk,Instr.findKey,run_und hdk,i1,Sem.run_pure,Nat.zero_add,harr,Option.map_some,Option.getD_some,Instr.keyThatStays,hsb,if_true,hstep]
   ·intro j' a' v' e' q1 q2
    rw [List.getElem?_set] at q1
    rw [Array.getElem?_modify] at q2
    by_cases hjj:j = j'
    ·subst hjj
     rw [if_pos rfl] at q1 q2
     rw [if_pos (by omega)] at q1
     simp at q1
     obtain ⟨rfl,rfl⟩:=q1
     rw [harr] at q2
     simp at q2; subst q2
     exact ⟨hk,hv⟩
    ·rw [if_neg hjj] at q1 q2
     exact h3 j' a' v' e' q1 q2
end
end Go.SL
