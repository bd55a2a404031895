import Derived.Test.YtgbcmddacencjaaDoorSLem
import Derived.Laws.StructEq
import Derived.Laws.BytesString
import Derived.Laws.Externs
import Derived.Laws.Cover1
import Derived.Lib.Builder
import Derived.Lib.UnsafeStr
import Derived.KernelRfl
import Derived.Tactics
import Derived.Deep.LoopGhost
set_option linter.unusedSimpArgs false
set_option linter.unusedVariables false
namespace Go.SL
open Go.RowKit
section
variable {P:Program} {E:Env} {F:Nat→Prop} {hm:Nat→Option Blk} {g:G} {w:World} {id:Nat}
def atomEq (k:TK):AV→AV→Option Bool
 | .int _ a,.int _ b=>match k with | .int _=>some (decide (a = b)) | _=>none
 | .str a,.str b=>match k with | .string=>some (decide (a = b)) | _=>none
 | .bool a,.bool b=>match k with | .bool=>some (a == b) | _=>none
 | _,_=>none
def kEq:AV→AV→Bool
 | .int k _,.int k' _=>decide (k = k')
 | _,_=>true
theorem atomEq_ok {n:Nat} {t:TypeId} {k:TK} {a b:AV} {x y:Value} {r:Bool} (hk:kOf P t = some k) (h:atomEq k a b = some r) (he:kEq a b = true) (ha:VR g a x) (hb:VR g b y):(Op.equalIn (n + 1) t x y).run P w = .ok r w:=by
 obtain ⟨d,hd,hkd⟩:=kOf_ok hk
 unfold atomEq at h
 split at h <;> (try split at h) <;> simp at h <;> cases ha <;> cases hb <;> subst h
 ·obtain rfl:=kind_int hkd
  simp [kEq] at he; subst he
  rw [run_equalIn_int w n t _ _ _ _ hd]
  rfl
 ·obtain rfl:=kind_string hkd
  rw [run_equalIn_string w n t _ _ hd,bytes_beq]
 ·obtain rfl:=kind_bool hkd
  rw [run_equalIn_bool w n t _ _ hd]
def evFields (P:Program):List (Nat × TypeId)→List AV→List AV→Option Bool
 | [],_,_=>some true
 | (o,ft) :: fs,a,b=>match kOf P ft,partAV P ft a o,partAV P ft b o with
  | some k,some u,some v=>match atomEq k u v,evFields P fs a b with
   | some r,some q=>if kEq u v then some (r && q) else none
   | _,_=>none
  | _,_,_=>none
def plainS (P : Program) (t : TypeId) : Bool := !P.stoodInHeld t && !P.eqGuardType P.depth t && (P.fieldsOf t).toList.all (fun f => f.name != "_")
def evStruct (P:Program) (t:TypeId) (a b:List AV):Option Bool :=
 if plainS P t then (match kOf P t with | some (.struct fs)=>evFields P fs a b | _=>none) else none
theorem run_eqFields {n : Nat} : ∀ {fs : List Field} {a b : List AV} {xs ys : Array Value} {r : Bool}, evFields P (fs.map fun f => (f.offset, f.type)) a b = some r → fs.all (fun f => f.name != "_") = true → VRs g a xs.toList → VRs g b ys.toList →
  (Op.eqFields (n + 1) xs ys fs).run P w = .ok r w
 | [],a,b,xs,ys,r,h,hn,hx,hy=>by simp [evFields] at h; subst h; simp [Op.eqFields]
 | f :: fs,a,b,xs,ys,r,h,hn,hx,hy=>by
  simp only [List.map_cons,evFields] at h
  simp only [List.all_cons,Bool.and_eq_true] at hn
  split at h
  ·rename_i k u v hk hu hv
   split at h
   ·rename_i r1 q h1 h2
    split at h
    ·rename_i he
     simp at h; subst h
     obtain ⟨x,hx1,hx2⟩:=run_part hu hx w
     obtain ⟨y,hy1,hy2⟩:=run_part hv hy w
     have:=atomEq_ok (P:=P) (w:=w) (n:=n) hk h1 he hx2 hy2
     have hname : f.name ≠ "_" := by simpa using hn.1
     simp only [Op.eqFields,if_pos hname,Sem.run_bind,hx1,hy1,this,Result.andThen_ok]
     cases r1 with
     | false=>simp
     | true=>simpa using run_eqFields h2 hn.2 hx hy
    ·simp at h
   ·simp at h
  ·simp at h
theorem run_evStruct {op:BinOp} {t:TypeId} {X Y:Operand} {a b:List AV} {x y:Value} {r:Bool} (h:evStruct P t a b = some r) (hx:VR g (.agg a) x) (hy:VR g (.agg b) y) (ho:op = .eql∨op = .neq) :
  (do eqGuard op t X Y x y; binOp op t x y:Sem Value).run P w = .ok (.bool (if op = .eql then r else !r)) w:=by
 unfold evStruct at h
 split at h
 ·rename_i hp
  split at h
  ·rename_i fs hk
   simp only [plainS,Bool.and_eq_true,Bool.not_eq_true'] at hp
   obtain ⟨⟨p1,p2⟩,p3⟩:=hp
   obtain ⟨d,hd,hkd⟩:=kOf_ok hk
   obtain ⟨f,rfl,hfs⟩:=kind_struct hkd
   have hfo:P.fieldsOf t = f:=by simp [Program.fieldsOf,hd]
   cases hx with
   | agg _ xs h1 hx1 =>
    cases hy with
    | agg _ ys h2 hy1 =>
     rw [← hfs] at h
     have hr:=run_eqFields (P:=P) (w:=w) (n:=9998) h (by rw [hfo] at p3; exact p3) (vrs_of_arr h1 hx1) (vrs_of_arr h2 hy1)
     have ht:P.underlying t = some (.struct (P.fieldsOf t)):=by rw [hfo]; exact hd
     have he:(Op.equalIn 10000 t (.agg xs) (.agg ys)).run P w = .ok r w:=by
      have:=run_equalIn_struct (P:=P) w 9999 t xs ys ht p1
      rw [this,hfo]; exact hr
     have hg:(eqGuard op t X Y (.agg xs) (.agg ys)).run P w = .ok () w:=run_eqGuard_agg w op t X Y xs ys p2
     simp only [Sem.run_bind,hg,Result.andThen_ok]
     rcases ho with rfl | rfl
     ·rw [run_eql_struct,he]; rfl
     ·rw [run_neq_struct,he]; rfl
  ·simp at h
 ·simp at h
theorem run_ptr_same {op:BinOp} {t e:TypeId} {X Y:Operand} {n l o:Nat} {x y:Value} (hk:kOf P t = some (.ptr e)) (hn:szOf P e = some n) (hx:VR g (.ptr l o) x) (hy:VR g (.ptr l o) y) (ho:op = .eql∨op = .neq) :
  (do eqGuard op t X Y x y; binOp op t x y:Sem Value).run P w = .ok (.bool (if op = .eql then true else false)) w:=by
 obtain ⟨d,hd,hkd⟩:=kOf_ok hk
 obtain rfl:=kind_ptr hkd
 obtain ⟨j,hj,_⟩:=szOf_ok hn
 cases hx with
 | ptr _ _ p e1 =>
  cases hy with
  | ptr _ _ q e2 =>
   rw [e1] at e2; simp at e2; subst e2
   have hg:(eqGuard op t X Y (.pointer (some ⟨p.block,p.base + o,none⟩)) (.pointer (some ⟨p.block,p.base + o,none⟩))).run P w = .ok () w:=by
    rcases ho with rfl | rfl <;> rfl
   have he:∀ d:Nat,(Op.equalIn (d + 1) t (.pointer (some ⟨p.block,p.base + o,none⟩)) (.pointer (some ⟨p.block,p.base + o,none⟩))).run P w = .ok true w:=fun d=>by
    simp [Op.equalIn,run_underlying hd,sizeOf,typeInfo,hj,run_sameAddr_same]
   simp only [Sem.run_bind,hg,Result.andThen_ok]
   rcases ho with rfl | rfl
   ·simp only [binOp]; simp [Op.equal,Op.maxDepth,he 9999]
   ·simp only [binOp]; simp [Op.equal,Op.maxDepth,he 9999]
def bytesAV:List AV→Option (List UInt8)
 | []=>some []
 | .int .u8 n :: r=>if 0≤n∧n < 256 then (bytesAV r).map (UInt8.ofNat n.toNat :: ·) else none
 | _ :: _=>none
theorem bytesAV_ok:∀ {ns:List AV} {l:List UInt8} {ys:List Value},bytesAV ns = some l→VRs g ns ys→ys = l.map (fun b=>Value.int .u8 b.toNat)∧l.length = ns.length
 | [],l,ys,h,hv=>by simp [bytesAV] at h; subst h; obtain rfl:=hv.nil_inv; exact ⟨rfl,rfl⟩
 | v :: ns,l,ys,h,hv=>by
  obtain ⟨y,ys,rfl,hy,hys⟩:=hv.cons_inv
  unfold bytesAV at h
  split at h
  ·rename_i e; simp at e
  ·rename_i n r e
   simp at e
   obtain ⟨rfl,rfl⟩:=e
   split at h
   ·rename_i hb
    cases hr:bytesAV ns with
    | none=>simp [hr] at h
    | some l' =>
     simp [hr] at h; subst h
     obtain ⟨h1,h2⟩:=bytesAV_ok hr hys
     cases hy
     refine ⟨?_,by simp [h2]⟩
     simp only [List.map_cons,h1,List.cons.injEq,Value.int.injEq,true_and,and_true]
     have:n.toNat < 256:=by omega
     simp [UInt8.toNat_ofNat,Nat.mod_eq_of_lt this]; omega
   ·simp at h
  ·simp at h
theorem push_all:∀ (ns:List UInt8) (acc:ByteArray),(ns.map fun b=>(b.toNat:Int)).foldl (fun r n=>r.push (UInt8.ofNat n.toNat)) acc = ⟨acc.data ++ ns.toArray⟩
 | [],acc=>by simp
 | b :: ns,acc=>by
  simp only [List.map_cons,List.foldl_cons]
  rw [push_all ns]
  simp [ByteArray.push]
def convAV (P:Program) (hm:Nat→Option Blk) (s d:TypeId):AV→Option AV
 | .int _ n=>match kOf P s,kOf P d with | some _,some (.int k)=>some (.int k (k.wrap n)) | _,_=>none
 | .str b=>match kOf P s,kOf P d with | some _,some .string=>some (.str b) | _,_=>none
 | .ptr l 0=>match kOf P s,kOf P d,hm l with
  | some (.ptr t),some .raw,some (.row ty cs)=>match szOf P t with | some n=>if n ≠ 0∧0 < cs.length then some (.ptr l 0) else none | none=>none
  | some .raw,some (.ptr u),some (.row ty cs)=>match szOf P u with | some _=>if (exB P ty && liesAt P P.depth ty (cs.length / P.cellsOf ty) 0 u 1) = true then some (.ptr l 0) else none | none=>none
  | _,_,_=>none
 | v=>match kOf P s,kOf P d with
  | some (.slice e),some .string=>match kOf P e,szOf P e,elems hm 1 v with
   | some (.int .u8),some 1,some (ns,_)=>(bytesAV ns).map fun l=>.str ⟨l.toArray⟩
   | _,_,_=>none
  | _,_=>none
theorem run_convAV (h:Mem P E F hm g w) {s d:TypeId} {v u:AV} {x:Value} (hc:convAV P hm s d v = some u) (hx:VR g v x):∃ y,(convert s d x).run P w = .ok y w∧VR g u y:=by
 unfold convAV at hc
 split at hc
 ·split at hc
  ·rename_i k1 k hk1 hk
   simp at hc; subst hc
   obtain ⟨d1,hd1,_⟩:=kOf_ok hk1
   obtain ⟨d2,hd2,hkd⟩:=kOf_ok hk
   obtain rfl:=kind_int hkd
   cases hx
   exact ⟨_,by simp [convert,run_und hd1,run_und hd2,Conv.intToInt],.int _ _⟩
  ·simp at hc
 ·split at hc
  ·rename_i k1 hk1 hk
   simp at hc; subst hc
   obtain ⟨d1,hd1,_⟩:=kOf_ok hk1
   obtain ⟨d2,hd2,hkd⟩:=kOf_ok hk
   obtain rfl:=kind_string hkd
   cases hx
   exact ⟨_,by simp [convert,run_und hd1,run_und hd2],.str _⟩
  ·simp at hc
 ·rename_i l
  split at hc
  ·rename_i t ty cs hk1 hk hl
   split at hc
   ·rename_i n hn
    split at hc
    ·rename_i hnz
     simp at hc; subst hc
     obtain ⟨d1,hd1,hkd1⟩:=kOf_ok hk1
     obtain rfl:=kind_ptr hkd1
     obtain ⟨d2,hd2,hkd⟩:=kOf_ok hk
     obtain rfl:=kind_raw hkd
     obtain ⟨j,hj,hjn⟩:=szOf_ok hn
     have hx':=hx
     cases hx with
     | ptr _ _ p e1 =>
      rcases h.blk l _ hl with ⟨q,arr,hq,hblk,h1,h2,h3,h4⟩ | ⟨hq,_⟩
      ·rw [e1] at hq; simp at hq; subst hq
       refine ⟨_,Lib.run_to_unsafe (P:=P) w ⟨p.block,p.base + 0,none⟩ hd1 hd2 hj (by rw [hjn]; exact hnz.1) (e:=ty) (cells:=arr.size) (by simp [World.shape?,hblk]) ?_,hx'⟩
       have:=hnz.2
       show p.base + 0 < arr.size
       omega
      ·rw [e1] at hq; simp at hq
    ·simp at hc
   ·simp at hc
  ·rename_i u0 ty cs hk1 hk hl
   split at hc
   ·rename_i n hn
    split at hc
    ·rename_i hnz
     simp at hc; subst hc
     simp only [Bool.and_eq_true] at hnz
     obtain ⟨d1,hd1,hkd1⟩:=kOf_ok hk1
     obtain rfl:=kind_raw hkd1
     obtain ⟨d2,hd2,hkd⟩:=kOf_ok hk
     obtain rfl:=kind_ptr hkd
     obtain ⟨j,hj,hjn⟩:=szOf_ok hn
     have hx':=hx
     cases hx with
     | ptr _ _ p e1 =>
      obtain ⟨hb0,hlim⟩:=h.exact l ty cs p hl e1 hnz.1
      rcases h.blk l _ hl with ⟨q,arr,hq,hblk,h1,h2,h3,h4⟩ | ⟨hq,_⟩
      ·rw [e1] at hq; simp at hq; subst hq
       refine ⟨_,Lib.run_from_unsafe (P:=P) w ⟨p.block,p.base + 0,none⟩ hd1 hd2 hj (e:=ty) (cells:=arr.size) (by simp [World.shape?,hblk]) ?_,hx'⟩
       have:arr.size = cs.length:=by omega
       rw [this]
       show liesAt P P.depth ty (cs.length / P.cellsOf ty) (p.base + 0) u0 1 = true
       rw [hb0]; exact hnz.2
      ·rw [e1] at hq; simp at hq
    ·simp at hc
   ·simp at hc
  ·simp at hc
 ·split at hc
  ·rename_i e hk1 hk
   split at hc
   ·rename_i ns m hke hse hel
    cases hb:bytesAV ns with
    | none=>simp [hb] at hc
    | some l =>
     simp [hb] at hc; subst hc
     obtain ⟨d1,hd1,hkd1⟩:=kOf_ok hk1
     obtain rfl:=kind_slice hkd1
     obtain ⟨d2,hd2,hkd⟩:=kOf_ok hk
     obtain rfl:=kind_string hkd
     obtain ⟨d3,hd3,hkd3⟩:=kOf_ok hke
     obtain rfl:=kind_int hkd3
     obtain ⟨b,c,ys,rfl,hmc,hys,hnl,hbb⟩:=elems_ok h hel hx
     obtain ⟨hy,hln⟩:=bytesAV_ok hb hys
     refine ⟨.string ⟨l.toArray⟩,?_,.str _⟩
     have hconv:(convert s d (.slice b m c)).run P w = (Conv.bytesToString (.slice b m c)).run P w:=by
      simp [convert,run_und hd1,run_und hd2,run_und hd3]
     rw [hconv]
     rcases hbb with ⟨a,rfl,ha,hcell⟩ | ⟨rfl,rfl,rfl⟩
     ·have hld:=run_loadCells_list (P:=P) w a ys (fun j v e=>by rw [add_eq ha]; exact hcell j v e)
      have hyl:ys.length = m:=by rw [← hys.1]; omega
      rw [hyl] at hld
      have:=run_bytesToString (P:=P) w a m c (l.map fun b=>(b.toNat:Int)) (by rw [hld,hy]; simp [List.map_map])
      rw [this,push_all]
      simp
     ·have:l = []:=by
       have:=hys.1
       apply List.eq_nil_of_length_eq_zero
       omega
      subst this
      simp [Conv.bytesToString]; rfl
   ·simp at hc
  ·simp at hc
def noEsc (P:Program) (f:FuncId):Bool:=match P.funcs[f]? with
 | some fn => fn.body.isNone && fn.name != "runtime.NumGoroutine" && (Extern.findNext fn).isNone && fn.name == "internal/abi.NoEscape"
 | none=>false
theorem find_noEsc {fn : Func} (h : fn.name = "internal/abi.NoEscape") : Extern.find fn = some Extern.AbiNoEscape.same := by
 have h1 : Extern.allGenericRows.lookup "internal/abi.NoEscape" = none := by kernel_rfl
 have h2 : Extern.allTypedRows.lookup "internal/abi.NoEscape" = none := by kernel_rfl
 have h3 : Extern.allRows.lookup "internal/abi.NoEscape" = some Extern.AbiNoEscape.same := by kernel_rfl
 unfold Extern.find
 simp only [h,h1,h2,h3]
 rfl
theorem run_noEsc {f:FuncId} (h:noEsc P f = true) (x:Value) (w:World):(callFunc f #[x]).run P w = .ok (.value x) w:=by
 unfold noEsc at h
 split at h
 ·rename_i fn hf
  simp only [Bool.and_eq_true] at h
  obtain ⟨⟨⟨h1,h2⟩,h3⟩,h4⟩:=h
  have hn : fn.name = "internal/abi.NoEscape" := by simpa using h4
  have h5:Extern.findNext fn = none:=by simpa using h3
  rw [run_callFunc_extern hf (by simpa using h2) h1 h5 (find_noEsc hn)]
  rw [Lib.run_noEscape]
  rfl
 ·simp at h
theorem cell_freeze (w:World) (p:Addr) (n:Nat) (a:Addr):(w.freeze p n).cell? a = w.cell? a:=by
 unfold World.freeze
 split
 ·rfl
 ·by_cases h:p.block = a.block
  ·cases hb:w.heap[a.block]? with
   | none=>simp [World.cell?,Array.getElem?_modify,h,hb]
   | some o=>cases o <;> simp [World.cell?,Array.getElem?_modify,h,hb]
  ·simp [World.cell?,Array.getElem?_modify,h]
theorem freeze_other (w:World) (p:Addr) (n b:Nat) (h:b ≠ p.block):(w.freeze p n).heap[b]? = w.heap[b]?:=by
 unfold World.freeze
 split
 ·rfl
 ·simp only [Array.getElem?_modify]
  rw [if_neg (fun e=>h e.symm)]
theorem freeze_same (w:World) (p:Addr) (n:Nat):(w.freeze p n).heap.size = w.heap.size∧(w.freeze p n).os = w.os∧(w.freeze p n).tape = w.tape∧(w.freeze p n).output = w.output:=by
 unfold World.freeze
 split <;> simp
theorem mem_freeze_drop (h:Mem P E F hm g w) {l:Nat} {B:Blk} {p:Pl} (hl:hm l = some B) (hp:g.μ l = some (some p)) (o n:Nat):Mem P E F (upd hm l none) g (w.freeze ⟨p.block,o,none⟩ n):=by
 have hsub:Mem P E F (upd hm l none) g w:=h.hsub fun k B hk=>by
  by_cases e:k = l
  ·subst e; rw [upd_same] at hk; simp at hk
  ·rw [upd_ne _ _ e] at hk; exact hk
 obtain ⟨q1,q2,q3,q4⟩:=freeze_same w ⟨p.block,o,none⟩ n
 exact { hsub with
  blk:=fun k B' hk=>(hsub.blk k B' hk).mono (G.le_refl g) fun q hq=>by
   have hne:k ≠ l:=fun e=>by subst e; rw [upd_same] at hk; simp at hk
   rw [upd_ne _ _ hne] at hk
   exact freeze_other w _ n _ (h.sep k l B' B q p hk hl hne hq hp)
  imm:=fun b o' x e=>by rw [cell_freeze]; exact h.imm b o' x e
  os:=q2.trans h.os,tape:=q3.trans h.tape,output:=q4.trans h.output
  size:=by rw [q1]; exact h.size
  keep:=fun b hb hK=>by
   have hne:b ≠ p.block:=fun e=>by
    rcases h.own l B p hl hp with h1 | h1
    ·exact hK (e ▸ h1)
    ·omega
   rw [freeze_other w _ n b hne]; exact h.keep b hb hK }
theorem lies_bytes {e:TypeId} (hc:P.cellsOf e = 1) (count off n:Nat) (hn:off + n≤count):liesAt P P.depth e count off e n = true:=by
 have hd:P.depth = (2 * (P.types.size + Made.depth) + 1) + 1:=rfl
 have hf:sameLayout P P.depth e e = true:=by rw [hd]; simp only [sameLayout,beq_self_eq_true,Bool.true_or]
 have hr:∀ d,rowAt P (sameLayout P P.depth · e) (d + 1) e count off n = true:=fun d=>by
  simp only [rowAt,hc,Nat.div_one,Nat.mod_one,hf,Bool.or_eq_true]
  simp [hn]
 have h1:∀ d,liesAt P (d + 1) e count off e n = (rowAt P (sameLayout P P.depth · e) P.depth e count off n || match P.underlying e with | some (.array m u')=>liesAt P d e count off u' (n * m) | _=>false):=fun d=>rfl
 have hd':liesAt P P.depth e count off e n = liesAt P ((2 * (P.types.size + Made.depth) + 1) + 1) e count off e n:=by rw [hd]
 rw [hd',h1,show rowAt P (sameLayout P P.depth · e) P.depth e count off n = true by have:=hr (2 * (P.types.size + Made.depth) + 1); rw [← hd] at this; exact this]
 rfl
theorem run_unsafeString {pt it ty e:TypeId} (hp:P.underlying pt = some (.pointer e)) (hc:P.cellsOf e = 1) (b off cells:Nat) (hsh:w.shape? b = some (e,cells)) (l:List UInt8) (h0:l ≠ []) (hn:off + l.length≤cells) (h63:l.length≤9223372036854775807)
  (hcell:∀ j x,l[j]? = some x→w.cell? ((⟨b,off,none⟩:Addr).add j) = some (.int .u8 x.toNat)) :
  (Builtin.unsafeString_ #[pt,it] ty #[.pointer (some ⟨b,off,none⟩),.int .i64 l.length]).run P w = .ok (.string ⟨l.toArray⟩) (w.freeze ⟨b,off,none⟩ l.length):=by
 have hl:l.length ≠ 0:=by simpa using h0
 have hlb:=Lib.run_loadBytes (P:=P) w l ⟨b,off,none⟩ .empty hcell
 have hlies:=lies_bytes (P:=P) hc (cells / P.cellsOf e) off l.length (by rw [hc]; simpa using hn)
 have h63':¬ (9223372036854775807:Int) < (l.length:Int):=by omega
 have hdef:Builtin.unsafeString_ #[pt,it] ty #[.pointer (some ⟨b,off,none⟩),.int .i64 l.length] =
   (do
    let n ← asInt (.int .i64 l.length)
    if n < 0 then runtimePanic (.error "unsafe.String: len out of range")
    if n > IntKind.i64.max then unsupported (.unsafePointer "String: a length above the largest int")
    if n = 0 then pure (.string .empty)
    else if ← variablesAt ⟨b,off,none⟩ (← elemOf pt) n.toNat then do
     let s ← loadBytes ⟨b,off,none⟩ .empty n.toNat
     freeze ⟨b,off,none⟩ n.toNat
     pure (.string s)
    else unsupported (.unsafePointer "String: not so many bytes at ptr")) := rfl
 rw [hdef]
 have hmax:IntKind.i64.max = 9223372036854775807:=rfl
 have hneg:¬ (l.length:Int) < 0:=by omega
 simp [asInt,asIntOf,hmax,h63',hneg,hl,variablesAt,hsh,elemOf,run_underlying hp,hlies,hlb]
def evBuiltin2 (P:Program) (b:Builtin) (ts:List TypeId) (hm:Nat→Option Blk) (id:Nat) (args:List AV):Option Out :=
 match b,ts,args with
 | .unsafeSliceData,[_],[.slice l off len sz]=>if 0 < len then some ⟨.ptr l off,[],0⟩ else none
 | .unsafeString,[pt,_],[.ptr l off,.int .i64 n]=>match kOf P pt,hm l with
  | some (.ptr e),some (.row ty cs)=>if ty = e∧P.cellsOf e = 1∧0 < n∧off + n.toNat≤cs.length∧n≤9223372036854775807 then
    (match bytesAV ((cs.drop off).take n.toNat) with | some l'=>some ⟨.str ⟨l'.toArray⟩,[(l,none)],0⟩ | none=>none) else none
  | _,_=>none
 | .clear,[t],[.slice l off len sz]=>match kOf P t,hm l with
  | some (.slice e),some (.row ty cs)=>match tiOf P e with
   | some ti=>if ti.size = sz∧off + len * sz≤cs.length∧AV.ones ti.zero = true then some ⟨.tuple [],[(l,some (.row ty (setAll cs off (repZ len ti.zero))))],0⟩ else none
   | none=>none
  | _,_=>none
 | .min,[_,_,_],[.int k a,.int k' b,.int k'' c]=>some ⟨.int k (if c < (if b < a then b else a) then c else (if b < a then b else a)),[],0⟩
 | .max,[_,_,_],[.int k a,.int k' b,.int k'' c]=>some ⟨.int k (if c > (if b > a then b else a) then c else (if b > a then b else a)),[],0⟩
 | _,_,_=>none
theorem ones_repZ {z:List AV} (h:AV.ones z = true):∀ n,AV.ones (repZ n z) = true
 | 0=>rfl
 | n + 1=>by simp only [repZ,ones_append,h,ones_repZ h n,Bool.and_self]
theorem acts_builtin2 (h:Mem P E F hm g w) {b:Builtin} {ts:List TypeId} {args:List AV} {xs:List Value} {out:Out} {ty:TypeId} {cs:Array Bool} (hev:evBuiltin2 P b ts hm id args = some out) (hF:∀ k,k < out.n→F (id + k)) (hx:VRs g args xs) :
  ∃ s:Sem Value,builtin b ts.toArray ty cs xs.toArray = (do Pure.pure (Next.value (← s)))∧Acts P E F hm g w s id out:=by
 unfold evBuiltin2 at hev
 split at hev
 ·rename_i t l off len sz
  obtain ⟨y,ys,rfl,hy,hys⟩:=hx.cons_inv
  obtain rfl:=hys.nil_inv
  split at hev
  ·rename_i hlen
   simp at hev; subst hev
   refine ⟨_,rfl,?_⟩
   cases hy with
   | slice _ _ _ _ c p e1 e2 e3 e4=>exact Acts.pure h (Lib.run_unsafeSliceData_row w _ _ _ _ _ (by omega)) (.ptr _ _ p e1)
   | slice0=>omega
   | sliceZ=>omega
   | sliceN=>omega
  ·simp at hev
 ·rename_i pt it l off n
  obtain ⟨y,ys,rfl,hy,hys⟩:=hx.cons_inv
  obtain ⟨z,zs,rfl,hz,hzs⟩:=hys.cons_inv
  obtain rfl:=hzs.nil_inv
  split at hev
  ·rename_i e tyr cells hk hl
   split at hev
   ·rename_i hc
    obtain ⟨rfl,hc1,hn0,hfit,h63⟩:=hc
    split at hev
    ·rename_i l' hl'
     simp at hev; subst hev
     obtain ⟨d,hd,hkd⟩:=kOf_ok hk
     obtain rfl:=kind_ptr hkd
     cases hz
     cases hy with
     | ptr _ _ p e1 =>
      rcases h.blk l _ hl with ⟨q,arr,hq,hblk,h1,h2,h3,h4⟩ | ⟨hq,_⟩
      ·rw [e1] at hq; simp at hq; subst hq
       obtain ⟨_,ys,hv,hcell⟩:=row_cells h hl e1
       obtain ⟨hb1,hb2⟩:=bytesAV_ok hl' ((hv.drop off).take n.toNat)
       have hlen':((cells.drop off).take n.toNat).length = n.toNat:=by simp; omega
       have hln:l'.length = n.toNat:=by omega
       have hn:n = (l'.length:Int):=by omega
       refine ⟨_,rfl,.string ⟨l'.toArray⟩,g,w.freeze ⟨p.block,p.base + off,none⟩ l'.length,?_,.str _,G.le_refl g,?_⟩
       ·rw [hn]
        refine run_unsafeString hd hc1 p.block (p.base + off) arr.size (by simp [World.shape?,hblk]) l' (fun e=>by subst e; simp at hln; omega) (by omega) (by omega) (fun j x hj=>?_)
        have hyj:((ys.drop off).take n.toNat)[j]? = some (Value.int .u8 x.toNat):=by rw [hb1]; simp [hj]
        rw [List.getElem?_take] at hyj
        split at hyj
        ·have:=hcell (off + j) _ (by simpa using hyj)
         rw [add_eq rfl]
         simpa [Nat.add_assoc] using this
        ·simp at hyj
       ·exact (mem_freeze_drop h hl e1 _ _).fsub fun l hl=>hl.1
      ·rw [e1] at hq; simp at hq
    ·simp at hev
   ·simp at hev
  ·simp at hev
 ·rename_i t l off len sz
  obtain ⟨y,ys,rfl,hy,hys⟩:=hx.cons_inv
  obtain rfl:=hys.nil_inv
  split at hev
  ·rename_i e tyr cells hk hl
   split at hev
   ·rename_i ti hti
    split at hev
    ·rename_i hc
     obtain ⟨rfl,hfit,hone⟩:=hc
     simp at hev; subst hev
     obtain ⟨d,hd,hkd⟩:=kOf_ok hk
     obtain rfl:=kind_slice hkd
     obtain ⟨de,i,z,hde,hi,hz,hke,hsz,hby,hzv,hzl,hza⟩:=tiOf_ok hti
     refine ⟨_,rfl,?_⟩
     have nothing:repZ len ti.zero = []→∀ x,VR g (.slice l off len ti.size) x→(∃ b c,x = .slice b len c)→len = 0→Acts P E F hm g w (Builtin.clear_ #[t] ty #[x]) id ⟨.tuple [],[(l,some (.row tyr (setAll cells off (repZ len ti.zero))))],0⟩:=fun h0 x hx' ⟨b,c,e⟩ hl0=>by
      subst e hl0
      refine ⟨.tuple #[],g,w,?_,.tuple _ _ rfl (by simp),G.le_refl g,?_⟩
      ·cases b <;> simp [Builtin.clear_,run_und hd]
      ·rw [h0]
       have:applyS hm [(l,some (.row tyr (setAll cells off [])))] = hm:=by
        funext k
        simp only [applyS,List.foldl,setAll]
        by_cases hk:k = l
        ·subst hk; rw [upd_same,hl]
        ·rw [upd_ne _ _ hk]
       rw [this]
       exact h.fsub fun l hl=>hl.1
     have hz0:len = 0→repZ len ti.zero = []:=fun e=>by subst e; rfl
     have hx0:=hy
     cases hy with
     | slice _ _ _ _ c p e1 e2 e3 e4 =>
      by_cases hlen:len = 0
      ·exact nothing (hz0 hlen) _ hx0 ⟨_,_,rfl⟩ hlen
      ·rcases h.blk l _ hl with ⟨q,arr,hq,hblk,h1,h2,h3,h4⟩ | ⟨hq,_⟩
       ·rw [e1] at hq; simp at hq; subst hq
        have hzc:Builtin.zeroCells z.cells len = (Array.range (len * ti.size)).map (z.cells[· % z.cells.size]!):=by
         have:z.cells.size = ti.size:=by have:=(hzv g).1; rw [hzl] at this; simpa using this.symm
         simp [Builtin.zeroCells,this]
        have hvs:VRs g (repZ len ti.zero) (Builtin.zeroCells z.cells len).toList:=by rw [hzc]; exact repZ_ok (hzv g) hzl
        have hvl:(repZ len ti.zero).length = len * ti.size:=by rw [repZ_eq,flatten_len (sz:=ti.size) (fun c hc'=>by rw [List.eq_of_mem_replicate hc']; exact hzl)]; simp
        have hlen2:=hvs.1
        have hst:=run_storeCells_at P p.block (p.base + off) tyr (Builtin.zeroCells z.cells len).toList 0 arr w hblk (by omega) (ones_ok (ones_repZ hone len) hvs)
        simp only [Nat.add_zero] at hst
        have hM:=mem_store h (off:=off) hl e1 hblk hvs (by omega)
        refine ⟨.tuple #[],g,_,?_,.tuple _ _ rfl (by simp),G.le_refl g,Mem.fsub hM fun k hk=>hk.1⟩
        have hne:len ≠ 0:=hlen
        simp only [Builtin.clear_]
        cases len with
        | zero=>exact absurd rfl hne
        | succ m=>simp [run_und hd,run_zero hi hz,hst]
       ·rw [e1] at hq; simp at hq
     | slice0 _ _ e1=>exact nothing rfl _ hx0 ⟨_,_,rfl⟩ rfl
     | sliceZ _ _ _ a p e1 e2 ea=>exact nothing rfl _ hx0 ⟨_,_,rfl⟩ rfl
     | sliceN _ _ a e1 ea=>exact nothing rfl _ hx0 ⟨_,_,rfl⟩ rfl
    ·simp at hev
   ·simp at hev
  ·simp at hev
 ·obtain ⟨y,ys,rfl,hy,hys⟩:=hx.cons_inv
  obtain ⟨z,zs,rfl,hz,hzs⟩:=hys.cons_inv
  obtain ⟨u,us,rfl,hu,hus⟩:=hzs.cons_inv
  obtain rfl:=hus.nil_inv
  simp at hev; subst hev
  cases hy; cases hz; cases hu
  exact ⟨_,rfl,Acts.pure h (by rw [run_min_int3]) (.int _ _)⟩
 ·obtain ⟨y,ys,rfl,hy,hys⟩:=hx.cons_inv
  obtain ⟨z,zs,rfl,hz,hzs⟩:=hys.cons_inv
  obtain ⟨u,us,rfl,hu,hus⟩:=hzs.cons_inv
  obtain rfl:=hus.nil_inv
  simp at hev; subst hev
  cases hy; cases hz; cases hu
  exact ⟨_,rfl,Acts.pure h (by rw [run_max_int3]) (.int _ _)⟩
 ·simp at hev
end
end Go.SL
namespace Go.SL
open Go.RowKit
def constAV:Value→Option AV
 | .iface t v=>(scal v).map (.iface t)
 | v=>scal v
def opd (fr:Nat→Option AV):Operand→Option AV
 | .tmp t=>fr t
 | .const v=>constAV v
 | .func f=>some (.func (.func f) [] [])
 | .global _=>none
def optInt (ρ:Operand→Option AV):Option Operand→Option (Option Int)
 | none=>some none
 | some x=>match ρ x with | some (.int _ i)=>some (some i) | _=>none
def opsAV (ρ:Operand→Option AV):List Operand→Option (List AV)
 | []=>some []
 | x :: r=>match ρ x,opsAV ρ r with | some v,some l=>some (v :: l) | _,_=>none
def pureO:Option AV→Option Out
 | some v=>some ⟨v,[],0⟩
 | none=>none
def isConstO:Operand→Bool | .const _=>true | _=>false
def evBuiltin (P:Program) (b:Builtin) (ts:List TypeId) (hm:Nat→Option Blk) (id:Nat) (args:List AV):Option Out :=
 match b,ts,args with
 | .len,[t],[x]=>match x with
  | .map l=>match kOf P t,hm l with | some (.map _ _),some (.mp es)=>some ⟨.int .i64 es.length,[],0⟩ | _,_=>none
  | x=>pureO (evLen P t x)
 | .append,[t,t2],[s,x]=>evAppend P t t2 hm id s x
 | .min,[_,_],[.int k a,.int k' b]=>some ⟨.int k (if b < a then b else a),[],0⟩
 | .max,[_,_],[.int k a,.int k' b]=>some ⟨.int k (if b > a then b else a),[],0⟩
 | _,_,_=>none
def evOp (P:Program) (o:Op) (ρ:Operand→Option AV) (hm:Nat→Option Blk) (id:Nat):Option Out :=
 match o with
 | .move x=>pureO (ρ x)
 | .assign x=>pureO (ρ x)
 | .pick c a b=>match ρ c with
  | some (.bool true)=>pureO (ρ a)
  | some (.bool false)=>pureO (ρ b)
  | _=>none
 | .alloc t=>match tiOf P t with | some ti=>some ⟨.ptr id 0,[(id,some (.row t ti.zero))],1⟩ | none=>none
 | .box t x=>match ρ x with | some v=>if v.known = true then some ⟨.ptr id 0,[(id,some (.row t v.cells))],1⟩ else none | none=>none
 | .build t ps=>match opds ρ ps.toList with | some l=>pureO (evBuild P t l) | none=>none
 | .buildSlice t n ps=>match opds ρ ps.toList with | some l=>evBuildSlice P t n l id | none=>none
 | .load t a=>match ρ a with
  | some p=>match deref hm p,tiOf P t with | some cs,some ti=>pureO (loadAV ti cs) | _,_=>none
  | none=>none
 | .store t a x=>match ρ a,ρ x with
  | some (.ptr l off),some v=>match hm l,tiOf P t with
   | some (.row ty cs),some ti=>if v.known = true∧AV.ones v.cells = true∧v.cells.length = ti.size∧off + v.cells.length≤cs.length then some ⟨.any,[(l,some (.row ty (setAll cs off v.cells)))],0⟩ else none
   | _,_=>none
  | _,_=>none
 | .nilCheck x=>match ρ x with
  | some (.ptr l off)=>some ⟨.ptr l off,[],0⟩
  | some (.ref cs off)=>some ⟨.ref cs off,[],0⟩
  | some (.func (.func f) a b)=>some ⟨.func (.func f) a b,[],0⟩
  | _=>none
 | .binOp op t x y _=>match ρ x,ρ y with
  | some .nilIface,some .nilIface=>if isConstO x || isConstO y then (match kOf P t,op with | some (.iface _),.eql=>some ⟨.bool true,[],0⟩ | some (.iface _),.neq=>some ⟨.bool false,[],0⟩ | _,_=>none) else none
  | some (.agg a),some (.agg b)=>match evStruct P t a b,op with | some r,.eql=>some ⟨.bool r,[],0⟩ | some r,.neq=>some ⟨.bool (!r),[],0⟩ | _,_=>none
  | some (.ptr l o),some (.ptr l' o')=>if l = l'∧o = o' then (match kOf P t,op with | some (.ptr e),.eql=>(szOf P e).map fun _=>⟨.bool true,[],0⟩ | some (.ptr e),.neq=>(szOf P e).map fun _=>⟨.bool false,[],0⟩ | _,_=>none) else none
  | some a,some b=>pureO (evBin P op t a b)
  | _,_=>none
 | .unOp op t x=>match op,ρ x with
  | .not,some (.bool b)=>some ⟨.bool (!b),[],0⟩
  | .neg,some (.int k n)=>some ⟨.int k (k.wrap (0 - n)),[],0⟩
  | _,_=>none
 | .convert s d x=>match ρ x with | some v=>pureO (convAV P hm s d v) | none=>none
 | .makeInterface t x=>match kOf P t,ρ x with
  | some (.iface _),_=>none
  | some _,some v=>some ⟨.iface t v,[],0⟩
  | _,_=>none
 | .makeFunc fn fs cs=>match opsAV ρ fs.toList,opsAV ρ cs.toList with | some a,some b=>some ⟨.func fn a b,[],0⟩ | _,_=>none
 | .makeMap t none=>some ⟨.map id,[(id,some (.mp []))],1⟩
 | .slice t x lo hi none=>match ρ x,optInt ρ lo,optInt ρ hi with
  | some v,some l,some h=>match lenAV v with | some n=>pureO (evSlice P t v (loI l) (h.getD n)) | none=>none
  | _,_,_=>none
 | .fieldAddr t x f=>match ρ x,evField P t f with
  | some v,some (o,ft)=>match szOf P ft with | some n=>if n ≠ 0 then pureO (shift o v) else none | none=>none
  | _,_=>none
 | .field t x f=>match ρ x,evField P t f with
  | some (.agg cs),some (o,ft)=>pureO (partAV P ft cs o)
  | _,_=>none
 | .indexAddr t x i=>match ρ x,ρ i with | some v,some (.int _ k)=>pureO (evIndexAddr P t v k) | _,_=>none
 | .index t x i=>match ρ x,ρ i with | some v,some (.int _ k)=>pureO (evIndex P t v k) | _,_=>none
 | .lookup t x k ok=>match ρ x,ρ k with | some v,some u=>pureO (evLookup P t hm v u ok) | _,_=>none
 | .mapUpdate t m k v=>match ρ m,ρ k,ρ v with | some a,some b,some c=>evMapSet P t hm a b c | _,_,_=>none
 | .insert t m k v=>match ρ m,ρ k,ρ v with | some a,some b,some c=>evMapSet P t hm a b c | _,_,_=>none
 | .extract x i=>match ρ x with | some (.tuple vs)=>pureO vs[i]? | _=>none
 | .typeAssert x xt t ok=>match ρ x,kOf P t with
  | some (.iface u v),some k=>match k with
   | .iface _=>none
   | _=>if u = t then some ⟨if ok then .tuple [v,.bool true] else v,[],0⟩ else none
  | _,_=>none
 | .call c=>match c.callee with
  | .builtin b=>match opsAV ρ c.args.toList with
   | some args=>match evBuiltin P b c.argTypes.toList hm id args with
    | some out=>some out
    | none=>evBuiltin2 P b c.argTypes.toList hm id args
   | none=>none
  | .value (.func f)=>if noEsc P f then (match opsAV ρ c.args.toList with | some [v]=>some ⟨v,[],0⟩ | _=>none) else none
  | _=>none
 | _=>none
section
variable {P:Program} {E:Env} {N:Nat} {F:Nat→Prop} {fr:Nat→Option AV} {hm:Nat→Option Blk} {g:G} {a:Act} {w:World} {id:Nat}
theorem const_ok {x:Value} {v:AV} (h:constAV x = some v):VR g v x:=by
 cases x <;> simp only [constAV] at h <;> first
  | exact scal_ok g h
  | (rename_i t y; cases hs:scal y with
    | none=>simp [hs] at h
    | some u=>simp [hs] at h; subst h; exact .iface _ _ _ (scal_ok g hs))
theorem opd_ok (h:Sim P E N F fr hm g a w) {x:Operand} {v:AV} (hx:opd fr x = some v):VR g v (a.eval x):=by
 cases x with
 | tmp t =>
  obtain ⟨y,hy,hv⟩:=h.fr t v hx
  have:a.eval (.tmp t) = y:=by simp [Act.eval,Array.getD_eq_getD_getElem?,hy]
  rw [this]; exact hv
 | const c=>exact const_ok hx
 | func f=>simp [opd] at hx; subst hx; exact .func _ _ _ _ _ rfl rfl (by simp) (by simp)
 | «global» n=>simp [opd] at hx
theorem ops_ok {ρ:Operand→Option AV} {σ:Operand→Value} (hρ:∀ x v,ρ x = some v→VR g v (σ x)):∀ {xs:List Operand} {l:List AV},opsAV ρ xs = some l→VRs g l (xs.map σ)
 | [],l,h=>by simp [opsAV] at h; subst h; exact VRs.nil g
 | x :: xs,l,h=>by
  simp only [opsAV] at h
  split at h
  ·rename_i v l' h1 h2
   simp at h; subst h
   exact VRs.cons (hρ _ _ h1) (ops_ok hρ h2)
  ·simp at h
def Does (P:Program) (E:Env) (F:Nat→Prop) (hm:Nat→Option Blk) (g:G) (w:World) (s:Sem Next) (id:Nat) (out:Out):Prop :=
 ∃ x g' w',(s.run P w = .ok (.value x) w'∨(s.run P w = .ok .skip w'∧x = undef))∧VR g' out.v x∧g.le g'∧Mem P E (minus F id out.n) (applyS hm out.set) g' w'
theorem Does.val {s:Sem Value} {out:Out} (h:Acts P E F hm g w s id out):Does P E F hm g w (do Pure.pure (Next.value (← s))) id out:=by
 obtain ⟨x,g',w',h1,h2,h3,h4⟩:=h
 exact ⟨x,g',w',.inl (by simp [h1]),h2,h3,h4⟩
theorem Does.pure (h:Mem P E F hm g w) {s:Sem Value} {v:AV} {x:Value} (hr:s.run P w = .ok x w) (hv:VR g v x):Does P E F hm g w (do Pure.pure (Next.value (← s))) id ⟨v,[],0⟩:=Does.val (Acts.pure h hr hv)
theorem Does.pure' (h:Mem P E F hm g w) {s:Sem Value} {ov:Option AV} {out:Out} (ho:pureO ov = some out) (hr:∀ v,ov = some v→∃ x,s.run P w = .ok x w∧VR g v x):Does P E F hm g w (do Pure.pure (Next.value (← s))) id out:=by
 cases ov with
 | none=>simp [pureO] at ho
 | some v=>simp [pureO] at ho; subst ho; obtain ⟨x,h1,h2⟩:=hr v rfl; exact Does.pure h h1 h2
theorem Does.imm (h:Mem P E F hm g w) {ov:Option AV} {out:Out} {x:Value} (ho:pureO ov = some out) (hr:∀ v,ov = some v→VR g v x):Does P E F hm g w (Pure.pure (Next.value x)) id out:=by
 cases ov with
 | none=>simp [pureO] at ho
 | some v=>simp [pureO] at ho; subst ho; exact ⟨x,g,w,.inl rfl,hr v rfl,G.le_refl g,h.fsub fun l hl=>hl.1⟩
theorem guard_none {op:BinOp} {t:TypeId} {x y:Operand} {p q:Value} (h:¬ (p = .nilIface∧q = .nilIface)) (h2:¬ ∃ c d,p = .agg c∧q = .agg d):(eqGuard op t x y p q).run P w = .ok () w:=by
 have key:(match p,q with
   | .nilIface,.nilIface=>(if (x matches .const _) || (y matches .const _) then Pure.pure () else do
     if ← Op.eqGuardIn Op.maxDepth t p q then unsupported (.noEntry "binop/eql: two nil values of an interface type with methods, neither of them the literal nil") : Sem Unit)
   | .agg _,.agg _=>(do
     if !(← program).eqGuardType (← program).depth t then return
     if ← Op.eqGuardIn Op.maxDepth t p q then unsupported (.noEntry "binop/eql: two nil values of an interface type with methods, in a part of a struct or an array"))
   | _,_=>(Pure.pure ():Sem Unit)).run P w = .ok () w:=by
  split
  ·exact absurd ⟨rfl,rfl⟩ h
  ·exact absurd ⟨_,_,rfl,rfl⟩ h2
  ·rfl
 cases op <;> first | rfl | exact key
theorem run_evBin {op:BinOp} {t:TypeId} {p q v:AV} {x y:Value} {X Y:Operand} (h:evBin P op t p q = some v) (hp:VR g p x) (hq:VR g q y):∃ z,(do eqGuard op t X Y x y; binOp op t x y:Sem Value).run P w = .ok z w∧VR g v z:=by
 unfold evBin at h
 split at h
 ·rename_i k a k' b
  cases hp; cases hq
  have hg:(eqGuard op t X Y (.int k a) (.int k' b)).run P w = .ok () w:=guard_none (by simp) (by simp)
  simp only [Sem.run_bind,hg,Result.andThen_ok]
  split at h
  ·exact run_evShift (.inl rfl) h g
  ·exact run_evShift (.inr rfl) h g
  ·split at h
   ·rename_i e; subst e; exact run_evInt (by assumption) (by assumption) h g
   ·simp at h
 ·rename_i a b
  cases hp; cases hq
  have hg:(eqGuard op t X Y (.string a) (.string b)).run P w = .ok () w:=guard_none (by simp) (by simp)
  simp only [Sem.run_bind,hg,Result.andThen_ok]
  exact run_evStr h g
 ·split at h
  ·rename_i k hk
   split at h
   ·rename_i r hr
    have he:=run_evEq (w:=w) hk hr hp hq
    have hg:(eqGuard op t X Y x y).run P w = .ok () w:=by
     refine guard_none ?_ ?_
     ·rintro ⟨rfl,rfl⟩; unfold evEq at hr; split at hr <;> cases hp <;> cases hq <;> simp at hr
     ·rintro ⟨c,d,rfl,rfl⟩; unfold evEq at hr; split at hr <;> cases hp <;> cases hq <;> simp at hr
    simp only [Sem.run_bind,hg,Result.andThen_ok]
    have hne:∀ k' m,x ≠ .int k' m∨True:=fun _ _=>.inr trivial
    split at h
    ·simp at h; subst h
     refine ⟨.bool r,?_,.bool _⟩
     unfold evEq at hr
     split at hr <;> cases hp <;> cases hq <;> first | (simp [binOp,he]; done) | simp at hr
    ·simp at h; subst h
     refine ⟨.bool (!r),?_,.bool _⟩
     unfold evEq at hr
     split at hr <;> cases hp <;> cases hq <;> first | (simp [binOp,he]; done) | simp at hr
    ·simp at h
   ·simp at h
  ·simp at h
theorem optInt_ok {ρ:Operand→Option AV} {σ:Operand→Value} (hρ:∀ x v,ρ x = some v→VR g v (σ x)) {x:Option Operand} {r:Option Int} (h:optInt ρ x = some r):∃ k,x.map σ = optV k r:=by
 cases x with
 | none=>simp [optInt] at h; subst h; exact ⟨.i64,rfl⟩
 | some y =>
  simp only [optInt] at h
  split at h
  ·rename_i k i hy
   simp at h; subst h
   have:=hρ _ _ hy
   cases hs:σ y <;> rw [hs] at this <;> cases this
   exact ⟨k,by simp [optV,hs]⟩
  ·simp at h
theorem guard_nil {op:BinOp} {t:TypeId} {x y:Operand} (hc:(isConstO x || isConstO y) = true):(eqGuard op t x y .nilIface .nilIface).run P w = .ok () w:=by
 cases x <;> cases y <;> first | (simp [isConstO] at hc; done) | (cases op <;> rfl)
theorem run_builtin (h:Mem P E F hm g w) {b:Builtin} {ts:List TypeId} {args:List AV} {xs:List Value} {out:Out} {ty:TypeId} {cs:Array Bool} (hev:evBuiltin P b ts hm id args = some out) (hF:∀ k,k < out.n→F (id + k)) (hx:VRs g args xs) :
  Does P E F hm g w (builtin b ts.toArray ty cs xs.toArray) id out:=by
 unfold evBuiltin at hev
 split at hev
 ·rename_i t x
  obtain ⟨y,ys,rfl,hy,hys⟩:=hx.cons_inv
  obtain rfl:=hys.nil_inv
  split at hev
  ·rename_i l
   split at hev
   ·rename_i kt et es hk hl
    simp at hev; subst hev
    obtain ⟨d,hd,hkd⟩:=kOf_ok hk
    obtain rfl:=kind_map hkd
    cases hy with
    | map _ p e1 =>
     obtain ⟨q,arr,clock,hq,hb,h1,h2,h3⟩:=h.blk l _ hl
     rw [e1] at hq; simp at hq; subst hq
     exact Does.pure h (x:=.int .i64 arr.size) (by simp [Builtin.len_,run_und hd,getObj,Sem.run,hb,goInt]) (by rw [h1]; exact .int _ _)
   ·simp at hev
  ·exact Does.pure' h hev fun v hv=>run_len hv hy w
 ·rename_i t t2 s x
  obtain ⟨y,ys,rfl,hy,hys⟩:=hx.cons_inv
  obtain ⟨z,zs,rfl,hz,hzs⟩:=hys.cons_inv
  obtain rfl:=hzs.nil_inv
  exact Does.val (acts_append h hev hF hy hz)
 ·obtain ⟨y,ys,rfl,hy,hys⟩:=hx.cons_inv
  obtain ⟨z,zs,rfl,hz,hzs⟩:=hys.cons_inv
  obtain rfl:=hzs.nil_inv
  simp at hev; subst hev
  cases hy; cases hz
  exact Does.pure h (by rw [run_min_int2]) (.int _ _)
 ·obtain ⟨y,ys,rfl,hy,hys⟩:=hx.cons_inv
  obtain ⟨z,zs,rfl,hz,hzs⟩:=hys.cons_inv
  obtain rfl:=hzs.nil_inv
  simp at hev; subst hev
  cases hy; cases hz
  exact Does.pure h (by rw [run_max_int2]) (.int _ _)
 ·simp at hev
set_option maxHeartbeats 1000000 in
theorem evOp_does (h:Sim P E N F fr hm g a w) {o:Oper} {out:Out} (hev:evOp P o.op (opd fr) hm id = some out) (hF:∀ k,k < out.n→F (id + k)):Does P E F hm g w (execOp a.eval o) id out:=by
 have hρ:∀ x v,opd fr x = some v→VR g v (a.eval x):=fun x v=>opd_ok h
 have hM:=h.mem
 obtain ⟨dst,op,ty,pos,aft,gd⟩:=o
 dsimp only at hev
 cases op with
 | move x=>exact Does.imm hM hev fun v hv=>hρ x v hv
 | assign x=>exact Does.imm hM hev fun v hv=>hρ x v hv
 | pick c p q =>
  simp only [evOp] at hev
  split at hev
  ·rename_i hc
   have:=hρ _ _ hc
   cases hb:a.eval c <;> rw [hb] at this <;> cases this
   cases hpa:opd fr p with
   | none=>simp [hpa,pureO] at hev
   | some v=>simp [hpa,pureO] at hev; subst hev; exact ⟨a.eval p,g,w,.inl (by simp [execOp,hb,asBool]),hρ _ _ hpa,G.le_refl g,hM.fsub fun l hl=>hl.1⟩
  ·rename_i hc
   have:=hρ _ _ hc
   cases hb:a.eval c <;> rw [hb] at this <;> cases this
   cases hpa:opd fr q with
   | none=>simp [hpa,pureO] at hev
   | some v=>simp [hpa,pureO] at hev; subst hev; exact ⟨a.eval q,g,w,.inl (by simp [execOp,hb,asBool]),hρ _ _ hpa,G.le_refl g,hM.fsub fun l hl=>hl.1⟩
  ·simp at hev
 | alloc t =>
  simp only [evOp] at hev
  split at hev
  ·rename_i ti hti
   simp at hev; subst hev
   exact Does.val (acts_alloc hM (by simpa using hF 0 (by simp)) hti)
  ·simp at hev
 | box t x =>
  simp only [evOp] at hev
  split at hev
  ·rename_i v hx
   split at hev
   ·rename_i hk
    simp at hev; subst hev
    exact Does.val (acts_box hM (by simpa using hF 0 (by simp)) hk (hρ _ _ hx))
   ·simp at hev
  ·simp at hev
 | build t ps =>
  simp only [evOp] at hev
  split at hev
  ·rename_i l hl
   obtain ⟨h1,h2⟩:=opds_ok hρ hl
   exact Does.pure' hM hev fun v hv=>run_build hv (by simpa using h1) (fun j p q e1 e2=>h2 j p q e1 (by simpa using e2)) w
  ·simp at hev
 | buildSlice t n ps =>
  simp only [evOp] at hev
  split at hev
  ·rename_i l hl
   obtain ⟨h1,h2⟩:=opds_ok hρ hl
   exact Does.val (acts_buildSlice hM hev hF (by simpa using h1) (fun j p q e1 e2=>h2 j p q e1 (by simpa using e2)))
  ·simp at hev
 | load t p =>
  simp only [evOp] at hev
  split at hev
  ·rename_i v hv
   split at hev
   ·rename_i cs ti hd hti
    obtain ⟨ad,e1,hc⟩:=deref_ok hM hd (hρ _ _ hv)
    exact Does.pure' hM hev fun u hu=>by
     obtain ⟨x,h1,h2⟩:=run_loadVar hti hc hu
     exact ⟨x,by simp [Instr.loadAt,Instr.sureAddr,e1,h1],h2⟩
   ·simp at hev
  ·simp at hev
 | store t p x =>
  simp only [evOp] at hev
  split at hev
  ·rename_i l off v hp hx
   split at hev
   ·rename_i rty cs ti hl hti
    split at hev
    ·rename_i hc
     simp at hev; subst hev
     obtain ⟨w',h1,h2⟩:=acts_store hM hti hl (hρ _ _ hp) (hρ _ _ hx) hc.1 hc.2.1 hc.2.2.1 hc.2.2.2
     exact ⟨undef,g,w',.inr ⟨by simp [execOp,h1],rfl⟩,.any _,G.le_refl g,h2.fsub fun l hl=>hl.1⟩
    ·simp at hev
   ·simp at hev
  ·simp at hev
 | nilCheck x =>
  simp only [evOp] at hev
  split at hev
  ·rename_i l off hx
   simp at hev; subst hev
   have:=hρ _ _ hx
   refine ⟨a.eval x,g,w,.inl ?_,this,G.le_refl g,hM.fsub fun l hl=>hl.1⟩
   cases hb:a.eval x <;> rw [hb] at this <;> cases this
   simp [execOp,hb]
  ·rename_i cs off hx
   simp at hev; subst hev
   have:=hρ _ _ hx
   refine ⟨a.eval x,g,w,.inl ?_,this,G.le_refl g,hM.fsub fun l hl=>hl.1⟩
   cases hb:a.eval x <;> rw [hb] at this <;> cases this
   simp [execOp,hb]
  ·rename_i f p q hx
   simp at hev; subst hev
   have:=hρ _ _ hx
   refine ⟨a.eval x,g,w,.inl ?_,this,G.le_refl g,hM.fsub fun l hl=>hl.1⟩
   cases hb:a.eval x <;> rw [hb] at this <;> cases this
   simp [execOp,hb]
  ·simp at hev
 | binOp op t x y yt =>
  simp only [evOp] at hev
  split at hev
  ·rename_i hx hy
   split at hev
   ·rename_i hc
    have h1:=hρ _ _ hx
    have h2:=hρ _ _ hy
    cases hb:a.eval x <;> rw [hb] at h1 <;> cases h1
    cases hb2:a.eval y <;> rw [hb2] at h2 <;> cases h2
    have hg:∀ op,(eqGuard op t x y .nilIface .nilIface).run P w = .ok () w:=fun op=>guard_nil hc
    have hq:∀ n ms,kOf P t = some (.iface ms)→(Op.equalIn (n + 1) t .nilIface .nilIface).run P w = .ok true w:=fun n ms hk=>by
     obtain ⟨d,hd,hkd⟩:=kOf_ok hk
     obtain ⟨m,rfl,_⟩:=kind_iface hkd
     simp [Op.equalIn,run_und hd]
    split at hev
    ·rename_i n hk
     simp at hev; subst hev
     have:=hq 9999 n hk
     refine Does.pure (s:=do eqGuard .eql t x y (a.eval x) (a.eval y); binOp .eql t (a.eval x) (a.eval y)) hM ?_ (.bool true)
     simp only [hb,hb2,Sem.run_bind,hg,Result.andThen_ok]
     simp [binOp,Op.equal,Op.maxDepth,this]
    ·rename_i n hk
     simp at hev; subst hev
     have:=hq 9999 n hk
     refine Does.pure (s:=do eqGuard .neq t x y (a.eval x) (a.eval y); binOp .neq t (a.eval x) (a.eval y)) hM ?_ (.bool false)
     simp only [hb,hb2,Sem.run_bind,hg,Result.andThen_ok]
     simp [binOp,Op.equal,Op.maxDepth,this]
    ·simp at hev
   ·simp at hev
  ·rename_i ca cb hx hy
   have h1:=hρ _ _ hx
   have h2:=hρ _ _ hy
   split at hev
   ·rename_i r hr
    simp at hev; subst hev
    exact Does.pure (s:=do eqGuard .eql t x y (a.eval x) (a.eval y); binOp .eql t (a.eval x) (a.eval y)) hM (run_evStruct hr h1 h2 (.inl rfl)) (.bool r)
   ·rename_i r hr
    simp at hev; subst hev
    exact Does.pure (s:=do eqGuard .neq t x y (a.eval x) (a.eval y); binOp .neq t (a.eval x) (a.eval y)) hM (run_evStruct hr h1 h2 (.inr rfl)) (.bool (!r))
   ·simp at hev
  ·rename_i l o l' o' hx hy
   have h1:=hρ _ _ hx
   have h2:=hρ _ _ hy
   split at hev
   ·rename_i hc
    obtain ⟨rfl,rfl⟩:=hc
    split at hev
    ·rename_i e hk
     cases hn:szOf P e with
     | none=>simp [hn] at hev
     | some n =>
      simp [hn] at hev; subst hev
      exact Does.pure (s:=do eqGuard .eql t x y (a.eval x) (a.eval y); binOp .eql t (a.eval x) (a.eval y)) hM (run_ptr_same hk hn h1 h2 (.inl rfl)) (.bool true)
    ·rename_i e hk
     cases hn:szOf P e with
     | none=>simp [hn] at hev
     | some n =>
      simp [hn] at hev; subst hev
      exact Does.pure (s:=do eqGuard .neq t x y (a.eval x) (a.eval y); binOp .neq t (a.eval x) (a.eval y)) hM (run_ptr_same hk hn h1 h2 (.inr rfl)) (.bool false)
    ·simp at hev
   ·simp at hev
  ·rename_i p q _ _ _ hx hy
   exact Does.pure' (s:=do eqGuard op t x y (a.eval x) (a.eval y); binOp op t (a.eval x) (a.eval y)) hM hev fun v hv=>run_evBin hv (hρ _ _ hx) (hρ _ _ hy)
  ·simp at hev
 | unOp op t x =>
  simp only [evOp] at hev
  split at hev
  ·rename_i b hx
   simp at hev; subst hev
   have:=hρ _ _ hx
   cases hb:a.eval x <;> rw [hb] at this <;> cases this
   exact Does.pure (s:=Op.unary .not (a.eval x)) hM (by simp [hb,Op.unary]) (.bool _)
  ·rename_i k n hx
   simp at hev; subst hev
   have:=hρ _ _ hx
   cases hb:a.eval x <;> rw [hb] at this <;> cases this
   exact Does.pure (s:=Op.unary .neg (a.eval x)) hM (by simp [hb,Op.unary,Op.intArith]) (.int _ _)
  ·simp at hev
 | convert s d x =>
  simp only [evOp] at hev
  split at hev
  ·rename_i v hx
   exact Does.pure' hM hev fun u hu=>run_convAV hM hu (hρ _ _ hx)
  ·simp at hev
 | makeInterface t x =>
  simp only [evOp] at hev
  split at hev
  ·simp at hev
  ·rename_i k v hni hk hx
   simp at hev; subst hev
   obtain ⟨d,hd,hkd⟩:=kOf_ok hk
   refine Does.pure (s:=Instr.makeInterface t (a.eval x)) hM (x:=.iface t (a.eval x)) ?_ (.iface t _ _ (hρ _ _ hx))
   cases d <;> first
    | (exact absurd hkd.symm (by first | exact hni _ | (intro e; exact hni _ e)))
    | simp [Instr.makeInterface,run_und hd]
   all_goals (first | (exfalso; exact hni _ (by rw [hk,← hkd]; rfl)) | skip)
  ·simp at hev
 | makeFunc fn fs cs =>
  simp only [evOp] at hev
  split at hev
  ·rename_i p q hp hq
   simp at hev; subst hev
   have h1:=ops_ok hρ hp
   have h2:=ops_ok hρ hq
   refine Does.pure (s:=Instr.makeFunc fn (fs.map a.eval) (cs.map a.eval)) hM (x:=.func fn (fs.map a.eval) (cs.map a.eval)) rfl ?_
   refine .func fn _ _ _ _ (by simpa using h1.1) (by simpa using h2.1) (fun j v x e1 e2=>h1.2 j v x e1 (by simpa using e2)) (fun j v x e1 e2=>h2.2 j v x e1 (by simpa using e2))
  ·simp at hev
 | makeMap t r =>
  cases r with
  | some r=>simp [evOp] at hev
  | none =>
   simp only [evOp,Option.some.injEq] at hev; subst hev
   obtain ⟨g',h1,h2,h3⟩:=mem_newmap hM (by simpa using hF 0 (by simp))
   exact ⟨.map (some w.heap.size),g',_,.inl (by simp [execOp,Instr.makeMap]),.map id _ h2,h1,h3⟩
 | slice t x lo hi mx =>
  cases mx with
  | some m=>simp [evOp] at hev
  | none =>
   simp only [evOp] at hev
   split at hev
   ·rename_i v l hh hx hlo hhi
    split at hev
    ·rename_i n hn
     obtain ⟨kl,e1⟩:=optInt_ok hρ hlo
     obtain ⟨kh,e2⟩:=optInt_ok hρ hhi
     exact Does.pure' (s:=Instr.sliceAt t (a.eval x) (lo.map a.eval) (hi.map a.eval) (none.map a.eval)) hM hev fun u hu=>by
      rw [e1,e2]; exact run_slice hn hu (hρ _ _ hx) w
    ·simp at hev
   ·simp at hev
 | fieldAddr t x f =>
  simp only [evOp] at hev
  split at hev
  ·rename_i v o ft hx hf
   split at hev
   ·rename_i n hn
    split at hev
    ·rename_i h0
     exact Does.pure' (s:=Instr.fieldAt t (a.eval x) f) hM hev fun u hu=>run_fieldAt hf hn h0 hu (hρ _ _ hx) w
    ·simp at hev
   ·simp at hev
  ·simp at hev
 | field t x f =>
  simp only [evOp] at hev
  split at hev
  ·rename_i cs o ft hx hf
   exact Does.pure' (s:=Instr.field t (a.eval x) f) hM hev fun u hu=>run_field hf hu (hρ _ _ hx) w
  ·simp at hev
 | indexAddr t x i =>
  simp only [evOp] at hev
  split at hev
  ·rename_i v k n hx hi
   have:=hρ _ _ hi
   cases hb:a.eval i <;> rw [hb] at this <;> cases this
   exact Does.pure' (s:=Instr.indexAt t (a.eval x) (a.eval i)) hM hev fun u hu=>by rw [hb]; exact run_indexAt hu (hρ _ _ hx) w
  ·simp at hev
 | index t x i =>
  simp only [evOp] at hev
  split at hev
  ·rename_i v k n hx hi
   have:=hρ _ _ hi
   cases hb:a.eval i <;> rw [hb] at this <;> cases this
   exact Does.pure' (s:=Instr.index t (a.eval x) (a.eval i)) hM hev fun u hu=>by rw [hb]; exact run_index hu (hρ _ _ hx) w
  ·simp at hev
 | lookup t x k ok =>
  simp only [evOp] at hev
  split at hev
  ·rename_i v u hx hk
   exact Does.pure' (s:=Instr.lookup t (a.eval x) (a.eval k) ok) hM hev fun z hz=>run_lookup hM hz (hρ _ _ hx) (hρ _ _ hk)
  ·simp at hev
 | mapUpdate t m k v =>
  simp only [evOp] at hev
  split at hev
  ·rename_i p q r hp hq hr
   obtain ⟨w',h1,h2,h3,h4⟩:=acts_mapSet hM hev (hρ _ _ hp) (hρ _ _ hq) (hρ _ _ hr)
   exact ⟨undef,g,w',.inr ⟨by simp [execOp,h1],rfl⟩,by rw [h4]; exact .any _,G.le_refl g,h2.fsub fun l hl=>hl.1⟩
  ·simp at hev
 | insert t m k v =>
  simp only [evOp] at hev
  split at hev
  ·rename_i p q r hp hq hr
   obtain ⟨w',h1,h2,h3,h4⟩:=acts_mapSet hM hev (hρ _ _ hp) (hρ _ _ hq) (hρ _ _ hr)
   exact ⟨undef,g,w',.inr ⟨by simp [execOp,h1],rfl⟩,by rw [h4]; exact .any _,G.le_refl g,h2.fsub fun l hl=>hl.1⟩
  ·simp at hev
 | extract x i =>
  simp only [evOp] at hev
  split at hev
  ·rename_i vs hx
   have:=hρ _ _ hx
   cases hb:a.eval x <;> rw [hb] at this <;> cases this
   rename_i xs e1 e2
   exact Does.pure' (s:=Instr.extract (a.eval x) i) hM hev fun u hu=>by
    obtain ⟨z,hz,hv⟩:=(vrs_of_arr e1 e2).get hu
    exact ⟨z,by simp [hb,Instr.extract,show xs[i]? = some z by simpa using hz],hv⟩
  ·simp at hev
 | typeAssert x xt t ok =>
  simp only [evOp] at hev
  split at hev
  ·rename_i u v k hx hk
   obtain ⟨d,hd,hkd⟩:=kOf_ok hk
   have:=hρ _ _ hx
   cases hb:a.eval x <;> rw [hb] at this <;> cases this
   rename_i y hy
   split at hev
   ·simp at hev
   ·rename_i hni
    split at hev
    ·rename_i e; subst e
     simp at hev; subst hev
     refine Does.pure (s:=Instr.typeAssert (a.eval x) xt u ok) hM (x:=if ok then .tuple #[y,.bool true] else y) ?_ ?_
     ·rw [hb]
      cases d <;> first
       | (exfalso; exact hni _ (by rw [← hkd]; rfl))
       | simp [Instr.typeAssert,run_und hd]
     ·cases ok
      ·exact hy
      ·refine .tuple _ _ rfl fun j p q e1 e2=>?_
       match j with
       | 0=>simp at e1 e2; subst e1 e2; exact hy
       | 1=>simp at e1 e2; subst e1 e2; exact .bool true
       | j + 2=>simp at e1
    ·simp at hev
  ·simp at hev
 | call c =>
  obtain ⟨callee,args,ats⟩:=c
  simp only [evOp] at hev
  split at hev
  ·rename_i b
   split at hev
   ·rename_i vs hvs
    have h1:=ops_ok hρ hvs
    have e:(args.toList.map a.eval).toArray = args.map a.eval:=Array.ext' (by simp)
    split at hev
    ·rename_i out' hev'
     simp at hev; subst hev
     have this:=fun cs=>run_builtin (ty:=ty) (cs:=cs) hM hev' hF h1
     rw [e] at this
     simpa [execOp,resolve,invoke] using this _
    ·have this:∀ cs,Does P E F hm g w (builtin b ats.toList.toArray ty cs (args.toList.map a.eval).toArray) id out:=fun cs=>by
      obtain ⟨q,hq,hA⟩:=acts_builtin2 (ty:=ty) (cs:=cs) hM hev hF h1
      rw [hq]; exact Does.val hA
     rw [e] at this
     simpa [execOp,resolve,invoke] using this _
   ·simp at hev
  ·rename_i f
   split at hev
   ·rename_i hne
    split at hev
    ·rename_i v hvs
     simp at hev; subst hev
     have h1:=ops_ok hρ hvs
     obtain ⟨y,ys,hy0,hy,hys⟩:=h1.cons_inv
     obtain rfl:=hys.nil_inv
     have e:args.map a.eval = #[y]:=by
      apply Array.ext'
      rw [Array.toList_map,hy0]
     refine ⟨y,g,w,.inl ?_,hy,G.le_refl g,hM.fsub fun l hl=>hl.1⟩
     have hnr:=run_noEsc hne y w
     simp only [execOp,resolve,Act.eval,Deferred.ofValue,invoke]
     simp [e,hnr]
    ·simp at hev
   ·simp at hev
  ·simp at hev
 | _=>simp [evOp] at hev
end
end Go.SL
namespace Go.SL
open Go.RowKit
structure St where
 fr:Nat→Option AV
 hm:Nat→Option Blk
 nx:Nat
structure Sm (P:Program) (E:Env) (N:Nat) (s:St) (g:G) (a:Act) (w:World):Prop where
 sim:Sim P E N (fun l=>s.nx≤l∨E.F l) s.fr s.hm g a w
 nx:E.n0≤s.nx
def putO (fr:Nat→Option AV) (d:Option Tmp) (v:AV):Nat→Option AV:=match d with | some d=>upd fr d (some v) | none=>fr
def dstOK (N:Nat):Option Tmp→Bool | some d=>decide (d < N) | none=>true
theorem Sim.put {P:Program} {E:Env} {N:Nat} {F F':Nat→Prop} {fr:Nat→Option AV} {hm hm':Nat→Option Blk} {g g':G} {a:Act} {w w':World} (h:Sim P E N F fr hm g a w) (hle:g.le g') (hM:Mem P E F' hm' g' w') {d:Option Tmp} (hd:dstOK N d = true) {v:AV} {x:Value} (hv:VR g' v x) :
  Sim P E N F' (putO fr d v) hm' g' (a.put d x) w':=by
 cases d with
 | none=>exact ⟨h.size,h.defers,fun t v e=>let ⟨y,a,b⟩:=h.fr t v e; ⟨y,a,b.mono hle⟩,hM⟩
 | some d =>
  have hd':d < N:=by simpa [dstOK] using hd
  refine ⟨by simp [Act.put,h.size],h.defers,fun t u e=>?_,hM⟩
  simp only [putO] at e
  by_cases ht:t = d
  ·subst ht
   rw [upd_same] at e; simp at e; subst e
   exact ⟨x,by simp [Act.put,h.size,hd'],hv⟩
  ·rw [upd_ne _ _ ht] at e
   obtain ⟨y,e1,e2⟩:=h.fr t u e
   refine ⟨y,?_,e2.mono hle⟩
   simp only [Act.put,Array.getElem?_setIfInBounds]
   rw [if_neg (fun e=>ht e.symm)]; exact e1
inductive Ex where
 | normal | exit (id:Nat) | goto (l:Nat) | ret | panic (v:AV)
def ExOK (g:G):Ex→Exit→Prop
 | .normal,.normal=>True
 | .exit i,.exit j=>i = j
 | .goto i,.goto j=>i = j
 | .ret,.ret=>True
 | .panic v,.panic ch=>∃ x,ch = [{ v:=x,recovered:=false }]∧VR g v x
 | _,_=>False
def Post (P:Program) (E:Env) (N:Nat) (K:Ex→St→Prop):Exit→Act→World→Prop:=fun e a w=>∃ x s g,ExOK g x e∧K x s∧Sm P E N s g a w
def AW (P:Program) (E:Env) (N:Nat) (c:Code) (s:St) (K:Ex→St→Prop):Prop:=∀ g a w,Sm P E N s g a w→c.wp P (Post P E N K) a w
def RW (P:Program) (E:Env) (N:Nat) (ops:Array Oper) (l:List Oper) (s:St) (K:Ex→St→Prop):Prop:=∀ g a w,Sm P E N s g a w→wpList P ops (Post P E N K) l a w
section
variable {P:Program} {E:Env} {N:Nat} {s:St} {K K':Ex→St→Prop}
theorem AW.mono {c:Code} (h:AW P E N c s K) (hk:∀ e s,K e s→K' e s):AW P E N c s K':=fun g a w hs=>wp_mono (h g a w hs) fun e a w ⟨x,s,g,h1,h2,h3⟩=>⟨x,s,g,h1,hk _ _ h2,h3⟩
theorem Sm.weaken {g:G} {a:Act} {w:World} (h:Sm P E N s g a w) {s':St} (h1:∀ t v,s'.fr t = some v→s.fr t = some v) (h2:∀ l B,s'.hm l = some B→s.hm l = some B) (h3:s.nx≤s'.nx):Sm P E N s' g a w :=
 ⟨⟨h.sim.size,h.sim.defers,fun t v e=>h.sim.fr t v (h1 t v e),(h.sim.mem.hsub h2).fsub fun l hl=>hl.imp (Nat.le_trans h3) id⟩,Nat.le_trans h.nx h3⟩
theorem AW.weaken {c:Code} {s':St} (h:AW P E N c s' K) (h1:∀ t v,s'.fr t = some v→s.fr t = some v) (h2:∀ l B,s'.hm l = some B→s.hm l = some B) (h3:s.nx≤s'.nx):AW P E N c s K:=fun g a w hs=>h g a w (hs.weaken h1 h2 h3)
theorem RW.weaken {ops:Array Oper} {l:List Oper} {s':St} (h:RW P E N ops l s' K) (h1:∀ t v,s'.fr t = some v→s.fr t = some v) (h2:∀ l B,s'.hm l = some B→s.hm l = some B) (h3:s.nx≤s'.nx):RW P E N ops l s K:=fun g a w hs=>h g a w (hs.weaken h1 h2 h3)
def seqK (P:Program) (E:Env) (N:Nat) (y:Code) (K:Ex→St→Prop):Ex→St→Prop
 | .normal,s=>AW P E N y s K
 | e,s=>K e s
theorem aw_seq {x y:Code} (h:AW P E N x s (seqK P E N y K)):AW P E N (.seq x y) s K:=fun g a w hs=>by
 refine wp_seq (wp_mono (h g a w hs) fun e a' w' ⟨x,s',g',h1,h2,h3⟩=>?_)
 cases x <;> cases e <;> first
  | exact h1.elim
  | exact h2 g' a' w' h3
  | exact ⟨_,s',g',h1,h2,h3⟩
def blockK (id:Nat) (K:Ex→St→Prop):Ex→St→Prop
 | .exit j,s=>if j = id then K .normal s else K (.exit j) s
 | e,s=>K e s
theorem aw_block {id:Nat} {c:Code} (h:AW P E N c s (blockK id K)):AW P E N (.block id c) s K:=fun g a w hs=>by
 refine wp_block (wp_mono (h g a w hs) fun e a' w' ⟨x,s',g',h1,h2,h3⟩=>?_)
 cases x with
 | exit j =>
  cases e <;> first | exact h1.elim | skip
  obtain rfl:=(h1:j = _)
  simp only [blockK] at h2
  simp only [Exit.inBlock]
  split at h2
  ·rename_i hj; rw [if_pos hj]; exact ⟨.normal,s',g',trivial,h2,h3⟩
  ·rename_i hj; rw [if_neg hj]; exact ⟨.exit j,s',g',rfl,h2,h3⟩
 | _=>cases e <;> first | exact h1.elim | exact ⟨_,s',g',h1,h2,h3⟩
theorem aw_cond {c:Operand} {x y:Code} {b:Bool} (hc:opd s.fr c = some (.bool b)) (ht:b = true→AW P E N x s K) (hf:b = false→AW P E N y s K):AW P E N (.cond c x y) s K:=fun g a w hs=>by
 have hb:a.eval c = .bool b:=by
  have:=opd_ok hs.sim hc
  cases hv:a.eval c <;> rw [hv] at this <;> cases this; rfl
 exact wp_cond_split hb (fun h=>ht h g a w hs) (fun h=>hf h g a w hs)
def loopK (I:Nat→St→Prop) (n:Nat) (K:Ex→St→Prop):Ex→St→Prop
 | .normal,s=>∃ n',n' < n∧I n' s
 | e,s=>K e s
theorem aw_loop {c:Code} (I:Nat→St→Prop) (n₀:Nat) (h₀:I n₀ s) (round:∀ n s,I n s→AW P E N c s (loopK I n K)):AW P E N (.loop c) s K:=fun g a w hs=>by
 refine wp_loop_ghost (fun n a w=>∃ s g,I n s∧Sm P E N s g a w) n₀ ⟨s,g,h₀,hs⟩ ?_
 rintro n a' w' ⟨s',g',hI,hs'⟩
 refine wp_mono (round n s' hI g' a' w' hs') fun e a2 w2 ⟨x,s2,g2,h1,h2,h3⟩=>?_
 cases x <;> cases e <;> first
  | exact h1.elim
  | exact ⟨_,s2,g2,h1,h2,h3⟩
  | (obtain ⟨n',hn,hI'⟩:=h2; exact ⟨n',hn,s2,g2,hI',h3⟩)
theorem aw_region {id:Nat} {ops:Array Oper} (h:RW P E N ops ops.toList s K):AW P E N (.region id ops false) s K:=fun g a w hs=>by
 refine wp_region ?_
 have:=h g a w hs
 rw [← wpOps_eq_wpList (P:=P) (ops:=ops) ops.toList 0 (fun j=>by simp)] at this
 rw [List.range_eq_range',← Array.length_toList]
 exact this
theorem rw_nil {ops:Array Oper} (h:K .normal s):RW P E N ops [] s K:=fun g a w hs=>⟨.normal,s,g,trivial,h,hs⟩
def guardAV (ops:Array Oper) (fr:Nat→Option AV) (o:Oper):Option Bool :=
 match o.guard with
 | none=>some true
 | some (j,want)=>match (ops[j]?).bind (·.dst) with
  | some d=>match fr d with | some (.bool b)=>some (b == want) | some (.tuple [])=>some false | _=>none
  | none=>none
theorem guard_ok {ops:Array Oper} {F:Nat→Prop} {fr:Nat→Option AV} {hm:Nat→Option Blk} {g:G} {a:Act} {w:World} (h:Sim P E N F fr hm g a w) {o:Oper} {b:Bool} (hg:guardAV ops fr o = some b):Region.wanted o (yielded ops a.tmps) = b:=by
 unfold guardAV at hg
 unfold Region.wanted
 cases hgd:o.guard with
 | none=>simp [hgd] at hg; simpa using hg.symm
 | some x =>
  obtain ⟨j,want⟩:=x
  simp only [hgd] at hg ⊢
  cases hd:(ops[j]?).bind (·.dst) with
  | none=>simp [hd] at hg
  | some d =>
   simp only [hd] at hg
   split at hg
   ·rename_i b' hf
    simp at hg; subst hg
    obtain ⟨x,hx,hv⟩:=h.fr d _ hf
    cases hv
    simp only [yielded,hd,Option.bind_some,hx]
    cases b' <;> cases want <;> rfl
   ·rename_i hf
    simp at hg; subst hg
    obtain ⟨x,hx,hv⟩:=h.fr d _ hf
    cases hv
    simp only [yielded,hd,Option.bind_some,hx]
    cases want <;> rfl
   ·simp at hg
def step1 (P:Program) (N:Nat) (ops:Array Oper) (o:Oper) (s:St):Option St :=
 match guardAV ops s.fr o,dstOK N o.dst with
 | some true,true=>match evOp P o.op (opd s.fr) s.hm s.nx with
  | some out=>some ⟨putO s.fr o.dst out.v,applyS s.hm out.set,s.nx + out.n⟩
  | none=>none
 | some false,true=>some ⟨putO s.fr o.dst (.tuple []),s.hm,s.nx⟩
 | _,_=>none
theorem rw_op {ops:Array Oper} {o:Oper} {l:List Oper} {s':St} (h:step1 P N ops o s = some s') (hr:RW P E N ops l s' K):RW P E N ops (o :: l) s K:=fun g a w hs=>by
 unfold step1 at h
 split at h
 ·rename_i hg hd
  split at h
  ·rename_i out hev
   simp at h; subst h
   obtain ⟨x,g',w',h1,h2,h3,h4⟩:=evOp_does hs.sim hev (fun k hk=>.inl (Nat.le_add_right _ _))
   have hn0:=hs.nx
   have hs':Sm P E N ⟨putO s.fr o.dst out.v,applyS s.hm out.set,s.nx + out.n⟩ g' (a.put o.dst x) w' :=
    ⟨Sim.put hs.sim h3 (h4.fsub fun l hl=>by
     rcases hl with hl | hl
     ·exact ⟨.inl (Nat.le_trans (Nat.le_add_right _ _) hl),fun hc=>by dsimp only at hl; omega⟩
     ·have:=E.hF l hl; exact ⟨.inr hl,fun hc=>by omega⟩) hd h2,Nat.le_trans hn0 (Nat.le_add_right _ _)⟩
   have hn:=hr g' _ w' hs'
   simp only [wpList]
   rw [guard_ok hs.sim hg,if_pos rfl]
   refine .inl ?_
   unfold Oper.wp
   rcases h1 with h1 | ⟨h1,rfl⟩
   ·rw [h1]; exact hn
   ·rw [h1]; exact hn
  ·simp at h
 ·rename_i hg hd
  simp at h; subst h
  have hs':Sm P E N ⟨putO s.fr o.dst (.tuple []),s.hm,s.nx⟩ g (a.put o.dst undef) w:=⟨Sim.put hs.sim (G.le_refl g) hs.sim.mem hd (.tuple [] #[] rfl (by simp)),hs.nx⟩
  simp only [wpList]
  rw [guard_ok hs.sim hg,if_neg (by simp)]
  exact hr g _ w hs'
 ·simp at h
def runR (P:Program) (N:Nat) (ops:Array Oper):List Oper→St→List Oper × St
 | [],s=>([],s)
 | o :: l,s=>match step1 P N ops o s with | some s'=>runR P N ops l s' | none=>(o :: l,s)
theorem rw_run {ops:Array Oper}:∀ {l l':List Oper} {s s':St},runR P N ops l s = (l',s')→RW P E N ops l' s' K→RW P E N ops l s K
 | [],l',s,s',h,hr=>by simp [runR] at h; obtain ⟨rfl,rfl⟩:=h; exact hr
 | o :: l,l',s,s',h,hr=>by
  simp only [runR] at h
  split at h
  ·rename_i s1 h1; exact rw_op h1 (rw_run h hr)
  ·simp at h; obtain ⟨rfl,rfl⟩:=h; exact hr
inductive Ret where
 | ret (v:AV) | panic (v:AV)
def RetOK (g:G):Ret→Ending→Prop
 | .ret v,.returned x=>VR g v x
 | .panic v,.panicked ch=>∃ x,ch = [{ v:=x,recovered:=false }]∧VR g v x
 | _,_=>False
def callOK (P:Program) (f:FuncId):Bool :=
 match P.funcs[f]? with
 | some fn => fn.body.isSome && fn.name != "runtime.NumGoroutine"
 | none=>false
def Triple (P:Program) (f:FuncId) (args:List AV) (hm:Nat→Option Blk) (nx:Nat) (Q:Ret→(Nat→Option Blk)→Nat→Prop):Prop :=
 callOK P f = true∧∀ (E:Env) (F:Nat→Prop) g w xs,(∀ l,nx≤l→F l)→Mem P E F hm g w→VRs g args xs →
  Calls P f xs.toArray w fun e w'=>∃ r hm' nx' g',RetOK g' r e∧Mem P E (fun l=>F l∧¬ (nx≤l∧l < nx')) hm' g' w'∧g.le g'∧nx≤nx'∧Q r hm' nx'
theorem Triple.mono {f:FuncId} {args:List AV} {hm:Nat→Option Blk} {nx:Nat} {Q Q':Ret→(Nat→Option Blk)→Nat→Prop} (h:Triple P f args hm nx Q) (hq:∀ r hm' nx',nx≤nx'→Q r hm' nx'→Q' r hm' nx'):Triple P f args hm nx Q' :=
 ⟨h.1,fun E F g w xs hF hM hv=>(h.2 E F g w xs hF hM hv).mono fun e w' ⟨r,hm',nx',g',h1,h2,h3,h4,h5⟩=>⟨r,hm',nx',g',h1,h2,h3,h4,hq _ _ _ h4 h5⟩⟩
def callee (ρ:Operand→Option AV) (c:Call):Option (FuncId × List AV) :=
 match c.callee with
 | .value x=>match ρ x,opsAV ρ c.args.toList with
  | some (.func (.func f) a b),some l=>some (f,a ++ l ++ b)
  | _,_=>none
 | _=>none
theorem callFunc_ok {f:FuncId} (h:callOK P f = true) (args:Array Value) (w:World):(callFunc f args).run P w = .ok (.enter f args) w:=by
 unfold callOK at h
 split at h
 ·rename_i fn hf
  simp only [Bool.and_eq_true] at h
  obtain ⟨h1,h2⟩:=h
  have h3:fn.body.isNone = false:=by cases hb:fn.body <;> simp [hb] at h1 ⊢
  have h4 : (fn.name == "runtime.NumGoroutine") = false := by simpa using h2
  simp only [callFunc,Sem.run_bind,run_program,Result.andThen_ok,hf,h3,h4,Bool.false_eq_true,if_false,Sem.run_pure]
 ·simp at h
def callK (s:St) (d:Option Tmp) (N:Nat) (R:St→Prop) (K:Ex→St→Prop):Ret→(Nat→Option Blk)→Nat→Prop
 | .ret v,hm,nx=>R ⟨putO s.fr d v,hm,nx⟩
 | .panic v,hm,nx=>K (.panic v) ⟨s.fr,hm,nx⟩
theorem rw_call {ops:Array Oper} {o:Oper} {l:List Oper} {c:Call} {f:FuncId} {args:List AV} (ho:o.op = .call c) (hg:guardAV ops s.fr o = some true) (hd:dstOK N o.dst = true) (hc:callee (opd s.fr) c = some (f,args))
  (h:Triple P f args s.hm s.nx (callK s o.dst N (fun s'=>RW P E N ops l s' K) K)):RW P E N ops (o :: l) s K:=fun g a w hs=>by
 simp only [wpList]
 rw [guard_ok hs.sim hg,if_pos rfl]
 refine .inl ?_
 unfold callee at hc
 obtain ⟨cal,cargs,cts⟩:=c
 cases cal with
 | value x =>
  simp only at hc
  split at hc
  ·rename_i f' p q l' hx hl
   simp only [Option.some.injEq,Prod.mk.injEq] at hc
   obtain ⟨rfl,rfl⟩:=hc
   have hρ:∀ x v,opd s.fr x = some v→VR g v (a.eval x):=fun x v=>opd_ok hs.sim
   have hvx:=hρ _ _ hx
   have hvl:=ops_ok hρ hl
   cases he:a.eval x <;> rw [he] at hvx <;> cases hvx
   rename_i xs ys e1 e2 e3 e4
   have h1:=vrs_of_arr e1 e2
   have h2:=vrs_of_arr e3 e4
   have hrun:(execOp a.eval o).run P w = .ok (.enter f' (xs ++ cargs.map a.eval ++ ys)) w:=by
    simp [execOp,ho,resolve,he,Deferred.ofValue,invoke,callFunc_ok h.1]
   unfold Oper.wp
   rw [hrun]
   have hcall:=h.2 E _ g w _ (fun l hl=>.inl hl) hs.sim.mem ((h1.append hvl).append h2)
   have harr:(xs.toList ++ cargs.toList.map a.eval ++ ys.toList).toArray = xs ++ cargs.map a.eval ++ ys:=Array.ext' (by simp)
   rw [harr] at hcall
   rw [Oper.upon_enter]
   refine hcall.mono fun e w' ⟨r,hm',nx',g',q1,q2,q3,q4,q5⟩=>?_
   have hn0:=hs.nx
   have q2':Mem P E (fun l=>nx'≤l∨E.F l) hm' g' w':=q2.fsub fun l hl=>by
    rcases hl with hl | hl
    ·exact ⟨.inl (Nat.le_trans q4 hl),fun hc=>by omega⟩
    ·have:=E.hF l hl; exact ⟨.inr hl,fun hc=>by omega⟩
   cases r with
   | ret v =>
    cases e <;> first | exact q1.elim | skip
    exact q5 g' _ w' ⟨Sim.put hs.sim q3 q2' hd q1,Nat.le_trans hn0 q4⟩
   | panic v =>
    cases e <;> first | exact q1.elim | skip
    refine ⟨.panic v,_,g',q1,q5,?_⟩
    exact ⟨⟨hs.sim.size,hs.sim.defers,fun t v e=>let ⟨y,a,b⟩:=hs.sim.fr t v e; ⟨y,a,b.mono q3⟩,q2'⟩,Nat.le_trans hn0 q4⟩
  ·simp at hc
 | _=>simp at hc
def resAV (P:Program) (s:St):List ResultVar→Option (List AV)
 | []=>some []
 | .tmp t :: r=>match s.fr t,resAV P s r with | some v,some l=>some (v :: l) | _,_=>none
 | .cell a t :: r=>match s.fr a,resAV P s r with
  | some p,some l=>match deref s.hm p,tiOf P t with
   | some cs,some ti=>match loadAV ti cs with | some v=>some (v :: l) | none=>none
   | _,_=>none
  | _,_=>none
def oneOf:List AV→AV | [v]=>v | l=>.tuple l
def resSem (tmps:Array Value):ResultVar→Sem Value
 | .tmp t=>Pure.pure (tmps.getD t undef)
 | .cell b t=>do loadVar t (← asAddr (tmps.getD b undef))
theorem res_ok {g:G} {a:Act} {w:World} (hs:Sm P E N s g a w):∀ {rs:List ResultVar} {l:List AV},resAV P s rs = some l →
  ∃ xs,(rs.mapM (resSem a.tmps)).run P w = .ok xs w∧VRs g l xs
 | [],l,h=>by simp [resAV] at h; subst h; exact ⟨[],by simp,VRs.nil g⟩
 | .tmp t :: rs,l,h=>by
  simp only [resAV] at h
  split at h
  ·rename_i v l' h1 h2
   simp at h; subst h
   obtain ⟨xs,h3,h4⟩:=res_ok hs h2
   obtain ⟨x,hx,hv⟩:=hs.sim.fr t v h1
   refine ⟨x :: xs,?_,VRs.cons hv h4⟩
   have:a.tmps.getD t undef = x:=by simp [Array.getD_eq_getD_getElem?,hx]
   simp only [List.mapM_cons,resSem,Sem.run_bind,Sem.run_pure,Result.andThen_ok,h3,this]
  ·simp at h
 | .cell b t :: rs,l,h=>by
  simp only [resAV] at h
  split at h
  ·rename_i p l' h1 h2
   split at h
   ·rename_i cs ti hd hti
    split at h
    ·rename_i v hv
     simp at h; subst h
     obtain ⟨xs,h3,h4⟩:=res_ok hs h2
     obtain ⟨x,hx,hp⟩:=hs.sim.fr b p h1
     obtain ⟨ad,rfl,hc⟩:=deref_ok hs.sim.mem hd hp
     obtain ⟨y,h5,h6⟩:=run_loadVar hti hc hv
     refine ⟨y :: xs,?_,VRs.cons h6 h4⟩
     have:a.tmps.getD b undef = .pointer (some ad):=by simp [Array.getD_eq_getD_getElem?,hx]
     simp only [List.mapM_cons,resSem,Sem.run_bind,Result.andThen_ok,this,asAddr,Sem.run_pure,h5,h3]
    ·simp at h
   ·simp at h
  ·simp at h
def bodyK (P:Program) (rs:List ResultVar) (Q:Ret→(Nat→Option Blk)→Nat→Prop):Ex→St→Prop
 | .normal,s=>∃ l hm',resAV P s rs = some l∧(∀ k B,hm' k = some B→s.hm k = some B)∧Q (.ret (oneOf l)) hm' s.nx
 | .ret,s=>∃ l hm',resAV P s rs = some l∧(∀ k B,hm' k = some B→s.hm k = some B)∧Q (.ret (oneOf l)) hm' s.nx
 | .panic v,s=>∃ hm',(∀ k B,hm' k = some B→s.hm k = some B)∧Q (.panic v) hm' s.nx
 | _,_=>False
def argsFr (args:List AV):Nat→Option AV:=fun t=>args[t]?
theorem triple_body {f:FuncId} {fn:Func} {c:Code} {args:List AV} {hm:Nat→Option Blk} {nx:Nat} {Q:Ret→(Nat→Option Blk)→Nat→Prop} (hf:P.funcs[f]? = some fn) (hb:fn.body = some c) (hok:callOK P f = true) (hn:args.length≤fn.ntmps)
  (h:(∀ l B,hm l = some B→l < nx)→∀ E:Env,E.n0 = nx→AW P E fn.ntmps c ⟨argsFr args,hm,nx⟩ (bodyK P fn.results.toList (fun r hm' nx'=>nx≤nx'∧Q r hm' nx'))):Triple P f args hm nx Q:=by
 refine ⟨hok,fun E F g w xs hF hM hv=>?_⟩
 have hwf:∀ l B,hm l = some B→l < nx:=fun l B hl=>by
  rcases Nat.lt_or_ge l nx with h0 | h0
  ·exact h0
  ·exfalso
   have hfr:=hM.fresh l (hF l h0)
   have:=hM.blk l B hl
   cases B with
   | row ty cs=>rcases this with ⟨q,arr,hq,_⟩ | ⟨hq,_⟩ <;> rw [hfr] at hq <;> simp at hq
   | mp es=>obtain ⟨q,arr,cl,hq,_⟩:=this; rw [hfr] at hq; simp at hq
 refine calls_of_wp hf hb ?_
 have hlen:xs.length = args.length:=hv.1.symm
 let E':Env:={ w:=E.w,g:=g,K:=E.K,F:=fun l=>F l∧l < nx,n0:=nx,hF:=fun l hl=>hl.2,hg:=fun l hl=>hM.fresh l (hF l hl),D:=[] }
 have up:∀ {F:Nat→Prop} {hm:Nat→Option Blk} {g':G} {w':World},Mem P E' F hm g' w'→Mem P E F hm g' w'∧g.le g':=fun h=>⟨{ h with
  le0:=G.le_trans hM.le0 h.le0
  immNew:=fun b o x e=>by
   rcases h.immNew b o x e with h1 | h1
   ·exact hM.immNew b o x h1
   ·exact .inr h1 },h.le0⟩
 have hs:Sm P E' fn.ntmps ⟨argsFr args,hm,nx⟩ g { tmps:=xs.toArray ++ Array.replicate (fn.ntmps - xs.toArray.size) undef,defers:=[] } w:=by
  refine ⟨⟨by simp; omega,rfl,fun t v e=>?_,?_⟩,Nat.le_refl _⟩
  ·obtain ⟨x,hx,hvx⟩:=hv.get e
   have ht:t < xs.length:=(List.getElem?_eq_some_iff.1 hx).1
   refine ⟨x,?_,hvx⟩
   rw [Array.getElem?_append_left (by simpa using ht)]
   simpa using hx
  ·exact { hM with
    fresh:=fun l hl=>hM.fresh l (hl.elim (hF l) And.left)
    le0:=G.le_refl g
    immNew:=fun b o x e=>.inl e }
 refine wp_mono (h hwf E' rfl g _ w hs) fun e a' w' ⟨x,s',g',h1,h2,h3⟩=>?_
 have fin:∀ {l:List AV} {hm':Nat→Option Blk},resAV P s' fn.results.toList = some l→(∀ k B,hm' k = some B→s'.hm k = some B)→nx≤s'.nx→Q (.ret (oneOf l)) hm' s'.nx →
   a'.defers = []∧∃ v,(results fn a'.tmps).run P w' = .ok v w'∧∃ r hm' nx' g',RetOK g' r (.returned v)∧Mem P E (fun l=>F l∧¬ (nx≤l∧l < nx')) hm' g' w'∧g.le g'∧nx≤nx'∧Q r hm' nx':=by
  intro l hm' hl hh hnx hq
  obtain ⟨ys,hr,hvs⟩:=res_ok h3 hl
  obtain ⟨hm1,hm2⟩:=up ((h3.sim.mem.hsub hh).fsub (F':=fun l=>F l∧¬ (nx≤l∧l < s'.nx)) fun l hl=>by
   by_cases h0:s'.nx≤l
   ·exact .inl h0
   ·exact .inr ⟨hl.1,by have:=hl.2; omega⟩)
  refine ⟨h3.sim.defers,if h:ys.toArray.size = 1 then ys.toArray[0] else .tuple ys.toArray,?_,.ret (oneOf l),hm',s'.nx,g',?_,hm1,hm2,hnx,hq⟩
  ·have:(fn.results.mapM (resSem a'.tmps)).run P w' = .ok ys.toArray w':=by
    rw [Array.mapM_eq_mapM_toList,Sem.run_map,hr]; rfl
   have e:(results fn a'.tmps) = (do let vs ← fn.results.mapM (resSem a'.tmps); Pure.pure (if h:vs.size = 1 then vs[0] else .tuple vs)):=by
    unfold results
    congr 1
   rw [e]
   simp only [Sem.run_bind,this,Result.andThen_ok,Sem.run_pure]
  ·show VR g' _ _
   match l,ys,hvs with
   | [v],[y],hvs=>simpa [oneOf] using hvs.2 0 v y rfl rfl
   | [],[],hvs=>simpa [oneOf] using VR.tuple (g:=g') [] #[] rfl (by simp)
   | v :: u :: l,y :: z :: ys,hvs =>
    have:¬ (y :: z :: ys).toArray.size = 1:=by simp
    rw [dif_neg this]
    exact .tuple _ _ (by simpa using hvs.1) fun j p q a b=>hvs.2 j p q a (by simpa using b)
   | [],_ :: _,hvs=>exact absurd hvs.1 (by simp)
   | [_],[],hvs=>exact absurd hvs.1 (by simp)
   | [_],_ :: _ :: _,hvs=>exact absurd hvs.1 (by simp)
   | _ :: _ :: _,[],hvs=>exact absurd hvs.1 (by simp)
   | _ :: _ :: _,[_],hvs=>exact absurd hvs.1 (by simp)
 cases x with
 | normal =>
  obtain ⟨l,hm',hl,hh,hnx,hq⟩:=h2
  cases e <;> first | exact h1.elim | exact fin hl hh hnx hq
 | ret =>
  obtain ⟨l,hm',hl,hh,hnx,hq⟩:=h2
  cases e <;> first | exact h1.elim | exact fin hl hh hnx hq
 | panic v =>
  obtain ⟨hm',hh,hnx,hq⟩:=h2
  obtain ⟨hm1,hm2⟩:=up ((h3.sim.mem.hsub hh).fsub (F':=fun l=>F l∧¬ (nx≤l∧l < s'.nx)) fun l hl=>by
   by_cases h0:s'.nx≤l
   ·exact .inl h0
   ·exact .inr ⟨hl.1,by have:=hl.2; omega⟩)
  cases e <;> first | exact h1.elim | exact ⟨h3.sim.defers,.panic v,hm',s'.nx,g',h1,hm1,hm2,hnx,hq⟩
 | exit id=>exact h2.elim
 | goto l=>exact h2.elim
end
end Go.SL
namespace Go.SL
open Go.RowKit
def lk:List (Nat × AV)→Nat→Option AV
 | []=>fun _=>none
 | (k,v) :: L=>fun t=>if t = k then some v else lk L t
theorem lk_get {k t:Nat} {v:AV} {L:List (Nat × AV)}:lk ((k,v) :: L) t = if t = k then some v else lk L t:=rfl
def argsL:Nat→List AV→List (Nat × AV)
 | _,[]=>[]
 | k,v :: vs=>(k,v) :: argsL (k + 1) vs
theorem argsL_eq:∀ (vs:List AV) (k t:Nat),k≤t→lk (argsL k vs) t = vs[t - k]?
 | [],k,t,h=>by simp [argsL,lk]
 | v :: vs,k,t,h=>by
  simp only [argsL,lk]
  by_cases ht:t = k
  ·subst ht; simp
  ·rw [if_neg ht,argsL_eq vs (k + 1) t (by omega),show t - k = (t - (k + 1)) + 1 by omega]; simp
theorem argsFr_eq (vs:List AV):argsFr vs = lk (argsL 0 vs):=by
 funext t; rw [argsL_eq vs 0 t (Nat.zero_le t)]; rfl
def sub (L' L:List (Nat × AV)):Prop:=∀ t v,lk L' t = some v→lk L t = some v
theorem sub_nil (L:List (Nat × AV)):sub [] L:=fun t v h=>by simp [lk] at h
theorem sub_cons {L' L:List (Nat × AV)} {k:Nat} {v:AV} (h:lk L k = some v) (hs:sub L' L):sub ((k,v) :: L') L:=fun t u e=>by
 simp only [lk] at e
 split at e
 ·subst_vars; simp at e; subst e; exact h
 ·exact hs t u e
section
variable {P:Program} {E:Env} {N:Nat} {K:Ex→St→Prop}
def keepL (ts:List Nat) (L:List (Nat × AV)):List (Nat × AV) :=
 match ts with
 | []=>[]
 | t :: ts=>match lk L t with | some v=>(t,v) :: keepL ts L | none=>keepL ts L
theorem keepL_sub:∀ (ts:List Nat) (L:List (Nat × AV)),sub (keepL ts L) L
 | [],L=>sub_nil L
 | t :: ts,L=>by
  simp only [keepL]
  split
  ·rename_i v h; exact sub_cons h (keepL_sub ts L)
  ·exact keepL_sub ts L
theorem triple_lk {f:FuncId} {fn:Func} {c:Code} {args:List AV} {hm:Nat→Option Blk} {nx:Nat} {Q:Ret→(Nat→Option Blk)→Nat→Prop} (hf:P.funcs[f]? = some fn) (hb:fn.body = some c) (hok:callOK P f = true) {n:Nat} (hnt:fn.ntmps = n) (hn:args.length≤n)
  {rs:List ResultVar} (hrs:fn.results.toList = rs)
  (h:(∀ l B,hm l = some B→l < nx)→∀ E:Env,E.n0 = nx→AW P E n c ⟨lk (argsL 0 args),hm,nx⟩ (bodyK P rs (fun r hm' nx'=>nx≤nx'∧Q r hm' nx'))):Triple P f args hm nx Q:=by
 subst hnt hrs
 refine triple_body hf hb hok hn fun hwf E=>?_
 rw [argsFr_eq]
 exact h hwf E
end
end Go.SL
namespace Go.SL
open Go.RowKit
mutual
def ren (ρ:Nat→Nat):AV→AV
 | .ptr l o=>.ptr (ρ l) o
 | .slice l o n sz=>.slice (ρ l) o n sz
 | .map l=>.map (ρ l)
 | .func fn a b=>.func fn (renL ρ a) (renL ρ b)
 | .iface t v=>.iface t (ren ρ v)
 | .agg cs=>.agg (renL ρ cs)
 | .tuple cs=>.tuple (renL ρ cs)
 | .any=>.any
 | .bool b=>.bool b
 | .int k n=>.int k n
 | .str s=>.str s
 | .nilp=>.nilp
 | .nilSlice=>.nilSlice
 | .nilMap=>.nilMap
 | .nilFunc=>.nilFunc
 | .nilIface=>.nilIface
 | .list sz xs=>.list sz xs
 | .lst sz n f=>.lst sz n f
 | .ref cs o=>.ref cs o
def renL (ρ:Nat→Nat):List AV→List AV
 | []=>[]
 | v :: vs=>ren ρ v :: renL ρ vs
end
mutual
def ltN (n:Nat):AV→Bool
 | .ptr l _=>decide (l < n)
 | .slice l _ _ _=>decide (l < n)
 | .map l=>decide (l < n)
 | .func _ a b=>ltNL n a && ltNL n b
 | .iface _ v=>ltN n v
 | .agg cs=>ltNL n cs
 | .tuple cs=>ltNL n cs
 | _=>true
def ltNL (n:Nat):List AV→Bool
 | []=>true
 | v :: vs=>ltN n v && ltNL n vs
end
theorem renL_get {ρ:Nat→Nat}:∀ {cs:List AV} {j:Nat},(renL ρ cs)[j]? = (cs[j]?).map (ren ρ)
 | [],j=>by simp [renL]
 | v :: vs,0=>by simp [renL]
 | v :: vs,j + 1=>by simp [renL,renL_get (cs:=vs)]
theorem renL_length {ρ:Nat→Nat}:∀ {cs:List AV},(renL ρ cs).length = cs.length
 | []=>rfl
 | v :: vs=>by simp [renL,renL_length (cs:=vs)]
theorem ltNL_get {n:Nat}:∀ {cs:List AV} {j:Nat} {v:AV},ltNL n cs = true→cs[j]? = some v→ltN n v = true
 | [],j,v,h,e=>by simp at e
 | u :: us,0,v,h,e=>by simp [ltNL] at h e; subst e; exact h.1
 | u :: us,j + 1,v,h,e=>by simp [ltNL] at h e; exact ltNL_get h.2 e
theorem VR.im_of {g h:G} (hI:∀ b o x,g.I b o = some x→h.I b o = some x):g.im.le h.im:=⟨fun _ _ e=>by simp [G.im] at e,hI⟩
theorem VR.ren {g:G} {v:AV} {x:Value} (H:VR g v x):∀ {h:G} {ρ:Nat→Nat},(∀ l d,g.μ l = some d→h.μ (ρ l) = some d)→(∀ b o x,g.I b o = some x→h.I b o = some x)→VR h (SL.ren ρ v) x:=by
 induction H with
 | any x=>intro h ρ _ _; exact .any x
 | bool b=>intro h ρ _ _; exact .bool b
 | int k n=>intro h ρ _ _; exact .int k n
 | str s=>intro h ρ _ _; exact .str s
 | nilp=>intro h ρ _ _; exact .nilp
 | nilSlice=>intro h ρ _ _; exact .nilSlice
 | nilMap=>intro h ρ _ _; exact .nilMap
 | nilFunc=>intro h ρ _ _; exact .nilFunc
 | nilIface=>intro h ρ _ _; exact .nilIface
 | ptr l off p e=>intro h ρ hμ _; exact .ptr _ off p (hμ _ _ e)
 | slice l off len sz c p e a b d=>intro h ρ hμ _; exact .slice _ off len sz c p (hμ _ _ e) a b d
 | slice0 l sz e=>intro h ρ hμ _; exact .slice0 _ sz (hμ _ _ e)
 | sliceZ l off sz a p e b d=>intro h ρ hμ _; exact .sliceZ _ off sz a p (hμ _ _ e) b d
 | sliceN l sz a e d=>intro h ρ hμ _; exact .sliceN _ sz a (hμ _ _ e) d
 | map l p e=>intro h ρ hμ _; exact .map _ p (hμ _ _ e)
 | list sz xs b o c f hl hs hI hv ih=>intro h ρ _ hi; exact .list sz xs b o c f hl hs (fun i cs j v a b=>hi _ _ _ (hI i cs j v a b)) (fun i cs j v a b=>(hv i cs j v a b).mono (VR.im_of hi))
 | list0 sz=>intro h ρ _ _; exact .list0 sz
 | lst sz n f x e ih=>intro h ρ hμ hi; exact .lst sz n f x (ih hμ hi)
 | ref cs off b o f hI hv ih=>intro h ρ _ hi; exact .ref cs off b o f (fun j v a=>hi _ _ _ (hI j v a)) (fun j v a=>(hv j v a).mono (VR.im_of hi))
 | func fn fs cs xs ys h1 h2 hx hy ih1 ih2 =>
  intro h ρ hμ hi
  refine .func fn _ _ xs ys (by rw [renL_length]; exact h1) (by rw [renL_length]; exact h2) (fun j v x a b=>?_) (fun j v x a b=>?_)
  ·rw [renL_get] at a
   cases e:fs[j]? with
   | none=>rw [e] at a; simp at a
   | some u=>rw [e] at a; simp at a; subst a; exact ih1 j u x e b hμ hi
  ·rw [renL_get] at a
   cases e:cs[j]? with
   | none=>rw [e] at a; simp at a
   | some u=>rw [e] at a; simp at a; subst a; exact ih2 j u x e b hμ hi
 | iface t v x e ih=>intro h ρ hμ hi; exact .iface t _ x (ih hμ hi)
 | agg cs xs h1 hx ih =>
  intro h ρ hμ hi
  refine .agg _ xs (by rw [renL_length]; exact h1) (fun j v x a b=>?_)
  rw [renL_get] at a
  cases e:cs[j]? with
  | none=>rw [e] at a; simp at a
  | some u=>rw [e] at a; simp at a; subst a; exact ih j u x e b hμ hi
 | tuple cs xs h1 hx ih =>
  intro h ρ hμ hi
  refine .tuple _ xs (by rw [renL_length]; exact h1) (fun j v x a b=>?_)
  rw [renL_get] at a
  cases e:cs[j]? with
  | none=>rw [e] at a; simp at a
  | some u=>rw [e] at a; simp at a; subst a; exact ih j u x e b hμ hi
theorem VR.swap_im {g h:G} (hI:∀ b o x,g.I b o = some x→h.I b o = some x) {sz:Nat} {xs:List (List AV)} {x:Value} (H:VR g (.list sz xs) x):VR h (.list sz xs) x:=by
 generalize hv:AV.list sz xs = v at H
 cases H <;> simp at hv
 ·obtain ⟨rfl,rfl⟩:=hv
  rename_i hl hv' hs hI'
  exact .list _ _ _ _ _ _ hl hs (fun i cs j v a b=>hI _ _ _ (hI' i cs j v a b)) (fun i cs j v a b=>(hv' i cs j v a b).mono (VR.im_of hI))
 ·obtain ⟨rfl,rfl⟩:=hv; exact .list0 _
mutual
theorem VR.unren {g h:G} {ρ:Nat→Nat} {n:Nat} (hμ:∀ l,l < n→h.μ l = g.μ (ρ l)) (hI:∀ b o x,g.I b o = some x→h.I b o = some x):∀ (v:AV) {x:Value},ltN n v = true→VR g (ren ρ v) x→VR h v x
 | .any,x,_,_=>.any x
 | .bool b,x,_,H=>by cases H; exact .bool b
 | .int k n,x,_,H=>by cases H; exact .int k n
 | .str s,x,_,H=>by cases H; exact .str s
 | .nilp,x,_,H=>by cases H; exact .nilp
 | .nilSlice,x,_,H=>by cases H; exact .nilSlice
 | .nilMap,x,_,H=>by cases H; exact .nilMap
 | .nilFunc,x,_,H=>by cases H; exact .nilFunc
 | .nilIface,x,_,H=>by cases H; exact .nilIface
 | .ptr l o,x,hl,H=>by
  simp only [ltN,decide_eq_true_eq] at hl
  simp only [ren] at H
  cases H with | ptr _ _ p e=>exact .ptr l o p (by rw [hμ l hl]; exact e)
 | .slice l o len sz,x,hl,H=>by
  simp only [ltN,decide_eq_true_eq] at hl
  simp only [ren] at H
  cases H with
  | slice _ _ _ _ c p e a b d=>exact .slice l o len sz c p (by rw [hμ l hl]; exact e) a b d
  | slice0 _ _ e=>exact .slice0 l sz (by rw [hμ l hl]; exact e)
  | sliceZ _ _ _ a p e b d=>exact .sliceZ l o sz a p (by rw [hμ l hl]; exact e) b d
  | sliceN _ _ a e d=>exact .sliceN l sz a (by rw [hμ l hl]; exact e) d
 | .map l,x,hl,H=>by
  simp only [ltN,decide_eq_true_eq] at hl
  simp only [ren] at H
  cases H with | map _ p e=>exact .map l p (by rw [hμ l hl]; exact e)
 | .list sz xs,x,_,H=>H.swap_im hI
 | .lst sz n f,x,_,H=>by
  simp only [ren] at H
  cases H with | lst _ _ _ _ e=>exact .lst sz n f x (e.swap_im hI)
 | .ref cs off,x,_,H=>by
  simp only [ren] at H
  cases H with | ref _ _ b o f h1 h2=>exact .ref cs off b o f (fun j v a=>hI _ _ _ (h1 j v a)) (fun j v a=>(h2 j v a).mono (VR.im_of hI))
 | .func fn fs cs,x,hl,H=>by
  simp only [ltN,Bool.and_eq_true] at hl
  simp only [ren] at H
  cases H with
  | func _ _ _ xs ys h1 h2 hx hy =>
   rw [renL_length] at h1 h2
   have a1:=VRs.unren hμ hI fs hl.1 (vrs_of_arr (by rw [renL_length]; exact h1) hx)
   have a2:=VRs.unren hμ hI cs hl.2 (vrs_of_arr (by rw [renL_length]; exact h2) hy)
   exact .func fn fs cs xs ys h1 h2 (fun j v x a b=>a1.2 j v x a (by simpa using b)) (fun j v x a b=>a2.2 j v x a (by simpa using b))
 | .iface t v,x,hl,H=>by
  simp only [ltN] at hl
  simp only [ren] at H
  cases H with | iface _ _ y e=>exact .iface t v y (VR.unren hμ hI v hl e)
 | .agg cs,x,hl,H=>by
  simp only [ltN] at hl
  simp only [ren] at H
  cases H with
  | agg _ xs h1 hx =>
   rw [renL_length] at h1
   have a1:=VRs.unren hμ hI cs hl (vrs_of_arr (by rw [renL_length]; exact h1) hx)
   exact .agg cs xs h1 (fun j v x a b=>a1.2 j v x a (by simpa using b))
 | .tuple cs,x,hl,H=>by
  simp only [ltN] at hl
  simp only [ren] at H
  cases H with
  | tuple _ xs h1 hx =>
   rw [renL_length] at h1
   have a1:=VRs.unren hμ hI cs hl (vrs_of_arr (by rw [renL_length]; exact h1) hx)
   exact .tuple cs xs h1 (fun j v x a b=>a1.2 j v x a (by simpa using b))
theorem VRs.unren {g h:G} {ρ:Nat→Nat} {n:Nat} (hμ:∀ l,l < n→h.μ l = g.μ (ρ l)) (hI:∀ b o x,g.I b o = some x→h.I b o = some x):∀ (vs:List AV) {xs:List Value},ltNL n vs = true→VRs g (renL ρ vs) xs→VRs h vs xs
 | [],xs,_,H=>by simp only [renL] at H; obtain rfl:=H.nil_inv; exact VRs.nil h
 | v :: vs,xs,hl,H=>by
  simp only [ltNL,Bool.and_eq_true] at hl
  simp only [renL] at H
  obtain ⟨x,xs,rfl,hx,hxs⟩:=H.cons_inv
  exact VRs.cons (VR.unren hμ hI v hl.1 hx) (VRs.unren hμ hI vs hl.2 hxs)
end
def renE (ρ:Nat→Nat) (es:List (AV × AV)):List (AV × AV):=es.map fun e=>(ren ρ e.1,ren ρ e.2)
def renB (ρ:Nat→Nat):Blk→Blk
 | .row ty cs=>.row ty (renL ρ cs)
 | .mp es=>.mp (renE ρ es)
def ltNE (n:Nat):List (AV × AV)→Bool
 | []=>true
 | e :: es=>ltN n e.1 && ltN n e.2 && ltNE n es
def ltNB (n:Nat):Blk→Bool
 | .row _ cs=>ltNL n cs
 | .mp es=>ltNE n es
theorem ltNE_get {n:Nat}:∀ {es:List (AV × AV)} {j:Nat} {k v:AV},ltNE n es = true→es[j]? = some (k,v)→ltN n k = true∧ltN n v = true
 | [],j,k,v,h,e=>by simp at e
 | u :: us,0,k,v,h,e=>by simp [ltNE] at h e; subst e; exact h.1
 | u :: us,j + 1,k,v,h,e=>by simp [ltNE] at h e; exact ltNE_get h.2 e
theorem BlkOK.ren {P:Program} {g h:G} {w:World} {ρ:Nat→Nat} {l:Nat} {B:Blk} (hμ:∀ l d,g.μ l = some d→h.μ (ρ l) = some d) (hI:∀ b o x,g.I b o = some x→h.I b o = some x) (H:BlkOK P g w l B):BlkOK P h w (ρ l) (renB ρ B):=by
 cases B with
 | row ty cs =>
  rcases H with ⟨q,arr,hq,hb,h1,h2,h3,h4⟩ | ⟨hq,h1⟩
  ·refine .inl ⟨q,arr,hμ _ _ hq,hb,h1,by rw [renL_length]; exact h2,by rw [renL_length]; exact h3,fun j v e=>?_⟩
   rw [renL_get] at e
   cases e':cs[j]? with
   | none=>rw [e'] at e; simp at e
   | some u =>
    rw [e'] at e; simp at e; subst e
    obtain ⟨x,hx,hv⟩:=h4 j u e'
    exact ⟨x,hx,hv.ren hμ hI⟩
  ·exact .inr ⟨hμ _ _ hq,by subst h1; rfl⟩
 | mp es =>
  obtain ⟨q,arr,cl,hq,hb,h1,h2,h3⟩:=H
  refine ⟨q,arr,cl,hμ _ _ hq,hb,by simpa [renE] using h1,h2,fun j k v e a b=>?_⟩
  simp only [renE,List.getElem?_map] at a
  cases e':es[j]? with
  | none=>rw [e'] at a; simp at a
  | some u =>
   rw [e'] at a; simp at a
   obtain ⟨rfl,rfl⟩:=a
   have:=h3 j u.1 u.2 e e' b
   exact ⟨this.1.ren hμ hI,this.2.ren hμ hI⟩
theorem BlkOK.unren {P:Program} {g h:G} {w:World} {ρ:Nat→Nat} {n l:Nat} {B:Blk} (hμ:∀ l,l < n→h.μ l = g.μ (ρ l)) (hI:∀ b o x,g.I b o = some x→h.I b o = some x) (hl:l < n) (hn:ltNB n B = true) (H:BlkOK P g w (ρ l) (renB ρ B)):BlkOK P h w l B:=by
 cases B with
 | row ty cs =>
  rcases H with ⟨q,arr,hq,hb,h1,h2,h3,h4⟩ | ⟨hq,h1⟩
  ·rw [renL_length] at h2 h3
   refine .inl ⟨q,arr,by rw [hμ l hl]; exact hq,hb,h1,h2,h3,fun j v e=>?_⟩
   obtain ⟨x,hx,hv⟩:=h4 j (SL.ren ρ v) (by rw [renL_get,e]; rfl)
   exact ⟨x,hx,VR.unren hμ hI v (ltNL_get hn e) hv⟩
  ·refine .inr ⟨by rw [hμ l hl]; exact hq,?_⟩
   have:=congrArg List.length h1
   rw [renL_length] at this
   exact List.eq_nil_of_length_eq_zero this
 | mp es =>
  obtain ⟨q,arr,cl,hq,hb,h1,h2,h3⟩:=H
  refine ⟨q,arr,cl,by rw [hμ l hl]; exact hq,hb,by simpa [renE] using h1,h2,fun j k v e a b=>?_⟩
  have:=h3 j (SL.ren ρ k) (SL.ren ρ v) e (by simp [renE,List.getElem?_map,a]) b
  have hb':=ltNE_get hn a
  exact ⟨VR.unren hμ hI k hb'.1 this.1,VR.unren hμ hI v hb'.2 this.2⟩
theorem BlkOK.def {P:Program} {g:G} {w:World} {l:Nat} {B:Blk} (h:BlkOK P g w l B):∃ d,g.μ l = some d:=by
 cases B with
 | row ty cs=>rcases h with ⟨q,arr,hq,_⟩ | ⟨hq,_⟩ <;> exact ⟨_,hq⟩
 | mp es=>obtain ⟨q,arr,cl,hq,_⟩:=h; exact ⟨_,hq⟩
theorem ltNL_all {n:Nat}:∀ (us:List AV),(∀ v ∈ us,SL.ltN n v = true)→ltNL n us = true
 | [],_=>rfl
 | u :: us,hu=>by simp only [ltNL,Bool.and_eq_true]; exact ⟨hu u (by simp),ltNL_all us fun v hv=>hu v (by simp [hv])⟩
theorem ltNL_pair {n:Nat} {vs:List AV} {zs:Array Value} (hl:vs.length = zs.size) (h:∀ (j:Nat) v x,vs[j]? = some v→zs[j]? = some x→SL.ltN n v = true):ltNL n vs = true :=
 ltNL_all vs fun v hv'=>by
  obtain ⟨j,hj⟩:=List.getElem?_of_mem hv'
  have hjl:j < zs.size:=by rw [← hl]; exact (List.getElem?_eq_some_iff.1 hj).1
  exact h j v zs[j] hj (Array.getElem?_eq_getElem hjl)
theorem VR.ltN {g:G} {v:AV} {x:Value} (H:VR g v x):∀ {n:Nat},(∀ l,n≤l→g.μ l = none)→SL.ltN n v = true:=by
 have key:∀ {g:G} {n l:Nat} {d:Option Pl},(∀ l,n≤l→g.μ l = none)→g.μ l = some d→l < n:=fun {g n l d} hn e=>by
  rcases Nat.lt_or_ge l n with h0 | h0
  ·exact h0
  ·rw [hn l h0] at e; simp at e
 induction H with
 | ptr l off p e=>intro n hn; simp only [SL.ltN,decide_eq_true_eq]; exact key hn e
 | slice l off len sz c p e a b d=>intro n hn; simp only [SL.ltN,decide_eq_true_eq]; exact key hn e
 | slice0 l sz e=>intro n hn; simp only [SL.ltN,decide_eq_true_eq]; exact key hn e
 | sliceZ l off sz a p e b d=>intro n hn; simp only [SL.ltN,decide_eq_true_eq]; exact key hn e
 | sliceN l sz a e d=>intro n hn; simp only [SL.ltN,decide_eq_true_eq]; exact key hn e
 | map l p e=>intro n hn; simp only [SL.ltN,decide_eq_true_eq]; exact key hn e
 | func fn fs cs xs ys h1 h2 hx hy ih1 ih2 =>
  intro n hn
  simp only [SL.ltN,Bool.and_eq_true]
  exact ⟨ltNL_pair h1 fun j v x a b=>ih1 j v x a b hn,ltNL_pair h2 fun j v x a b=>ih2 j v x a b hn⟩
 | iface t v x e ih=>intro n hn; simp only [SL.ltN]; exact ih hn
 | agg cs xs h1 hx ih=>intro n hn; simp only [SL.ltN]; exact ltNL_pair h1 fun j v x a b=>ih j v x a b hn
 | tuple cs xs h1 hx ih=>intro n hn; simp only [SL.ltN]; exact ltNL_pair h1 fun j v x a b=>ih j v x a b hn
 | _=>intro n hn; rfl
theorem ltNL_of {n:Nat}:∀ {us:List AV},(∀ (j:Nat) v,us[j]? = some v→SL.ltN n v = true)→ltNL n us = true
 | [],_=>rfl
 | u :: us,h=>by simp only [ltNL,Bool.and_eq_true]; exact ⟨h 0 u rfl,ltNL_of fun j v e=>h (j + 1) v (by simpa using e)⟩
theorem ltNE_of {n:Nat}:∀ {es:List (AV × AV)},(∀ (j:Nat) k v,es[j]? = some (k,v)→SL.ltN n k = true∧SL.ltN n v = true)→ltNE n es = true
 | [],_=>rfl
 | u :: us,h=>by simp only [ltNE,Bool.and_eq_true]; exact ⟨h 0 u.1 u.2 rfl,ltNE_of fun j k v e=>h (j + 1) k v (by simpa using e)⟩
theorem BlkOK.ltN {P:Program} {g:G} {w:World} {n l:Nat} {B:Blk} (hn:∀ l,n≤l→g.μ l = none) (H:BlkOK P g w l B):l < n∧ltNB n B = true:=by
 refine ⟨?_,?_⟩
 ·obtain ⟨d,hd⟩:=H.def
  rcases Nat.lt_or_ge l n with h0 | h0
  ·exact h0
  ·rw [hn l h0] at hd; simp at hd
 ·cases B with
  | row ty cs =>
   rcases H with ⟨q,arr,hq,hb,h1,h2,h3,h4⟩ | ⟨hq,h1⟩
   ·exact ltNL_of fun j v e=>by obtain ⟨x,_,hv⟩:=h4 j v e; exact hv.ltN hn
   ·subst h1; rfl
  | mp es =>
   obtain ⟨q,arr,cl,hq,hb,h1,h2,h3⟩:=H
   refine ltNE_of fun j k v e=>?_
   have hj:j < arr.size:=by rw [h1]; exact (List.getElem?_eq_some_iff.1 e).1
   have:=h3 j k v arr[j] e (Array.getElem?_eq_getElem hj)
   exact ⟨this.1.ltN hn,this.2.ltN hn⟩
mutual
theorem ren_id:∀ (v:AV),ren (fun l=>l) v = v
 | .ptr l o=>rfl
 | .slice l o n sz=>rfl
 | .map l=>rfl
 | .func fn a b=>by simp only [ren,renL_id a,renL_id b]
 | .iface t v=>by simp only [ren,ren_id v]
 | .agg cs=>by simp only [ren,renL_id cs]
 | .tuple cs=>by simp only [ren,renL_id cs]
 | .any=>rfl
 | .bool b=>rfl
 | .int k n=>rfl
 | .str s=>rfl
 | .nilp=>rfl
 | .nilSlice=>rfl
 | .nilMap=>rfl
 | .nilFunc=>rfl
 | .nilIface=>rfl
 | .list sz xs=>rfl
 | .lst sz n f=>rfl
 | .ref cs o=>rfl
theorem renL_id:∀ (vs:List AV),renL (fun l=>l) vs = vs
 | []=>rfl
 | v :: vs=>by simp only [renL,ren_id v,renL_id vs]
end
theorem renB_id (B:Blk):renB (fun l=>l) B = B:=by
 cases B with
 | row ty cs=>simp only [renB,renL_id]
 | mp es =>
  simp only [renB,renE,ren_id]
  congr 1
  induction es with
  | nil=>rfl
  | cons e es ih=>simp only [List.map_cons,ih]
mutual
theorem ltN_mono {n m:Nat} (h:n≤m):∀ (v:AV),ltN n v = true→ltN m v = true
 | .ptr l o,e=>by simp only [ltN,decide_eq_true_eq] at e ⊢; omega
 | .slice l o k sz,e=>by simp only [ltN,decide_eq_true_eq] at e ⊢; omega
 | .map l,e=>by simp only [ltN,decide_eq_true_eq] at e ⊢; omega
 | .func fn a b,e=>by simp only [ltN,Bool.and_eq_true] at e ⊢; exact ⟨ltNL_mono h a e.1,ltNL_mono h b e.2⟩
 | .iface t v,e=>by simp only [ltN] at e ⊢; exact ltN_mono h v e
 | .agg cs,e=>by simp only [ltN] at e ⊢; exact ltNL_mono h cs e
 | .tuple cs,e=>by simp only [ltN] at e ⊢; exact ltNL_mono h cs e
 | .any,_=>rfl
 | .bool b,_=>rfl
 | .int k n,_=>rfl
 | .str s,_=>rfl
 | .nilp,_=>rfl
 | .nilSlice,_=>rfl
 | .nilMap,_=>rfl
 | .nilFunc,_=>rfl
 | .nilIface,_=>rfl
 | .list sz xs,_=>rfl
 | .lst sz n f,_=>rfl
 | .ref cs o,_=>rfl
theorem ltNL_mono {n m:Nat} (h:n≤m):∀ (vs:List AV),ltNL n vs = true→ltNL m vs = true
 | [],_=>rfl
 | v :: vs,e=>by simp only [ltNL,Bool.and_eq_true] at e ⊢; exact ⟨ltN_mono h v e.1,ltNL_mono h vs e.2⟩
end
def PureT (P:Program) (f:FuncId) (args:List AV) (v:AV):Prop:=∀ hm nx,Triple P f args hm nx fun r hm' _=>r = .ret v∧hm' = hm
theorem VR.closed {g h:G} {v:AV} {x:Value} (hI:∀ b o x,g.I b o = some x→h.I b o = some x) (hv:SL.ltN 0 v = true) (H:VR g v x):VR h v x:=by
 rw [← ren_id v] at H
 exact VR.unren (n:=0) (fun l hl=>by omega) hI v hv H
theorem VR.res {g:G} {v:AV} {x:Value} (H:VR g v x):∀ {h:G} {y:Value},(∀ l d,h.μ l = some d→g.μ l = some d)→VR h v y→VR ⟨h.μ,g.I⟩ v x:=by
 have key:∀ {g h:G} {l:Nat} {d e:Option Pl},(∀ l d,h.μ l = some d→g.μ l = some d)→g.μ l = some d→h.μ l = some e→h.μ l = some d:=fun {g h l d e} hle a b=>by
  have:=hle l e b
  rw [a] at this; rw [b]; exact this.symm
 induction H with
 | any x=>intros; exact .any x
 | bool b=>intros; exact .bool b
 | int k n=>intros; exact .int k n
 | str s=>intros; exact .str s
 | nilp=>intros; exact .nilp
 | nilSlice=>intros; exact .nilSlice
 | nilMap=>intros; exact .nilMap
 | nilFunc=>intros; exact .nilFunc
 | nilIface=>intros; exact .nilIface
 | ptr l off p e=>intro h y hle K; cases K with | ptr _ _ q e'=>exact .ptr l off p (key hle e e')
 | slice l off len sz c p e a b d =>
  intro h y hle K
  have:∃ d',h.μ l = some d':=by cases K <;> exact ⟨_,by assumption⟩
  obtain ⟨d',e'⟩:=this
  exact .slice l off len sz c p (key hle e e') a b d
 | slice0 l sz e =>
  intro h y hle K
  have:∃ d',h.μ l = some d':=by cases K <;> exact ⟨_,by assumption⟩
  obtain ⟨d',e'⟩:=this
  exact .slice0 l sz (key hle e e')
 | sliceZ l off sz a p e b d =>
  intro h y hle K
  have:∃ d',h.μ l = some d':=by cases K <;> exact ⟨_,by assumption⟩
  obtain ⟨d',e'⟩:=this
  exact .sliceZ l off sz a p (key hle e e') b d
 | sliceN l sz a e d =>
  intro h y hle K
  have:∃ d',h.μ l = some d':=by cases K <;> exact ⟨_,by assumption⟩
  obtain ⟨d',e'⟩:=this
  exact .sliceN l sz a (key hle e e') d
 | map l p e=>intro h y hle K; cases K with | map _ q e'=>exact .map l p (key hle e e')
 | list sz xs b o c f hl hs hI hv ih=>intros; exact .list sz xs b o c f hl hs hI hv
 | list0 sz=>intros; exact .list0 sz
 | lst sz n f x e ih=>intro h y hle K; refine .lst sz n f x ?_; refine VR.swap_im ?_ e; intro _ _ _ e; exact e
 | ref cs off b o f hI hv ih=>intros; exact .ref cs off b o f hI hv
 | func fn fs cs xs ys h1 h2 hx hy ih1 ih2 =>
  intro h y hle K
  cases K with
  | func _ _ _ xs' ys' k1 k2 kx ky =>
   refine .func fn fs cs xs ys h1 h2 (fun j v x a b=>?_) (fun j v x a b=>?_)
   ·have hj:j < xs'.size:=by rw [← k1]; exact (List.getElem?_eq_some_iff.1 a).1
    exact ih1 j v x a b hle (kx j v xs'[j] a (Array.getElem?_eq_getElem hj))
   ·have hj:j < ys'.size:=by rw [← k2]; exact (List.getElem?_eq_some_iff.1 a).1
    exact ih2 j v x a b hle (ky j v ys'[j] a (Array.getElem?_eq_getElem hj))
 | iface t v x e ih=>intro h y hle K; cases K with | iface _ _ z e'=>exact .iface t v x (ih hle e')
 | agg cs xs h1 hx ih =>
  intro h y hle K
  cases K with
  | agg _ xs' k1 kx =>
   refine .agg cs xs h1 (fun j v x a b=>?_)
   have hj:j < xs'.size:=by rw [← k1]; exact (List.getElem?_eq_some_iff.1 a).1
   exact ih j v x a b hle (kx j v xs'[j] a (Array.getElem?_eq_getElem hj))
 | tuple cs xs h1 hx ih =>
  intro h y hle K
  cases K with
  | tuple _ xs' k1 kx =>
   refine .tuple cs xs h1 (fun j v x a b=>?_)
   have hj:j < xs'.size:=by rw [← k1]; exact (List.getElem?_eq_some_iff.1 a).1
   exact ih j v x a b hle (kx j v xs'[j] a (Array.getElem?_eq_getElem hj))
theorem Mem.res {P:Program} {E:Env} {F F':Nat→Prop} {hm:Nat→Option Blk} {g g':G} {w w':World} (h:Mem P E F hm g w) (h':Mem P E F' hm g' w') (hle:g.le g'):Mem P E F hm ⟨g.μ,g'.I⟩ w':={
 gl:=h.gl
 fresh:=h.fresh
 blk:=fun l B hl=>by
  have a:=h.blk l B hl
  have b:=h'.blk l B hl
  cases B with
  | row ty cs =>
   rcases b with ⟨q,arr,hq,hb,h1,h2,h3,h4⟩ | ⟨hq,h1⟩
   ·obtain ⟨d,hd⟩:=a.def
    have hd':g.μ l = some (some q):=by have:=hle.1 l d hd; rw [hq] at this; rw [hd,this]
    refine .inl ⟨q,arr,hd',hb,h1,h2,h3,fun j v e=>?_⟩
    obtain ⟨x,hx,hv⟩:=h4 j v e
    rcases a with ⟨q0,arr0,_,_,_,_,_,k4⟩ | ⟨_,k1⟩
    ·obtain ⟨x0,_,hv0⟩:=k4 j v e
     exact ⟨x,hx,hv.res hle.1 hv0⟩
    ·subst k1; simp at e
   ·obtain ⟨d,hd⟩:=a.def
    have hd':g.μ l = some none:=by have:=hle.1 l d hd; rw [hq] at this; rw [hd,this]
    exact .inr ⟨hd',h1⟩
  | mp es =>
   obtain ⟨q,arr,cl,hq,hb,h1,h2,h3⟩:=b
   obtain ⟨q0,arr0,cl0,hq0,_,k1,_,k3⟩:=a
   have hd':g.μ l = some (some q):=by have:=hle.1 l _ hq0; rw [hq] at this; rw [hq0,this]
   refine ⟨q,arr,cl,hd',hb,h1,h2,fun j k v e c d=>?_⟩
   have hj:j < arr0.size:=by rw [k1]; exact (List.getElem?_eq_some_iff.1 c).1
   have:=k3 j k v arr0[j] c (Array.getElem?_eq_getElem hj)
   exact ⟨(h3 j k v e c d).1.res hle.1 this.1,(h3 j k v e c d).2.res hle.1 this.2⟩
 sep:=fun l l' B B' p p' a b hne hp hp'=>h'.sep l l' B B' p p' a b hne (hle.1 _ _ hp) (hle.1 _ _ hp')
 imm:=h'.imm
 sepI:=fun l B p a hp=>h'.sepI l B p a (hle.1 _ _ hp)
 le0:=⟨h.le0.1,fun b o x e=>hle.2 b o x (h.le0.2 b o x e)⟩
 os:=h'.os
 tape:=h'.tape
 output:=h'.output
 size:=h'.size
 keep:=h'.keep
 own:=fun l B p a hp=>h'.own l B p a (hle.1 _ _ hp)
 immNew:=h'.immNew
 exact:=fun l ty cs p a hp he=>h'.exact l ty cs p a (hle.1 _ _ hp) he }
theorem applyS_cases:∀ {set:List (Nat × Option Blk)} {hm:Nat→Option Blk} {l:Nat} {B:Blk},applyS hm set l = some B→(l,some B) ∈ set∨(hm l = some B∧∀ x ∈ set,x.1 ≠ l)
 | [],hm,l,B,h=>.inr ⟨h,by simp⟩
 | y :: r,hm,l,B,h=>by
  have h':applyS (upd hm y.1 y.2) r l = some B:=h
  rcases applyS_cases h' with h1 | ⟨h1,h2⟩
  ·exact .inl (List.mem_cons_of_mem _ h1)
  ·by_cases e:l = y.1
   ·subst e
    rw [upd_same] at h1
    refine .inl ?_
    rw [← h1]; simp
   ·rw [upd_ne _ _ e] at h1
    refine .inr ⟨h1,fun x hx=>?_⟩
    simp at hx
    rcases hx with rfl | hx
    ·exact fun e'=>e e'.symm
    ·exact h2 x hx
theorem Mem.res2 {P:Program} {E:Env} {F F':Nat→Prop} {hm:Nat→Option Blk} {set:List (Nat × Option Blk)} {g g':G} {w w':World} (h:Mem P E F hm g w) (h':Mem P E F' (applyS hm set) g' w') (hle:g.le g')
  (hs:∀ x ∈ set,∃ B,x.2 = some B∧ltNB 0 B = true∧∃ C,hm x.1 = some C):Mem P E F (applyS hm set) ⟨g.μ,g'.I⟩ w':=by
 have hold:∀ l B,applyS hm set l = some B→∃ C,hm l = some C:=fun l B e=>by
  rcases applyS_cases e with h1 | ⟨h1,_⟩
  ·obtain ⟨_,_,_,C,hC⟩:=hs _ h1; exact ⟨C,hC⟩
  ·exact ⟨B,h1⟩
 have hdn:∀ l B d,applyS hm set l = some B→g'.μ l = some d→g.μ l = some d:=fun l B d e hd=>by
  obtain ⟨C,hC⟩:=hold l B e
  obtain ⟨d',hd'⟩:=(h.blk l C hC).def
  have:=hle.1 l d' hd'
  rw [hd] at this; rw [hd',this]
 exact {
  gl:=h.gl
  fresh:=h.fresh
  blk:=fun l B e=>by
   have hb:=h'.blk l B e
   rcases applyS_cases e with h1 | ⟨h1,_⟩
   ·obtain ⟨B',e1,e2,_⟩:=hs _ h1
    simp at e1; subst e1
    cases B with
    | row ty cs =>
     rcases hb with ⟨q,arr,hq,hb,a1,a2,a3,a4⟩ | ⟨hq,a1⟩
     ·refine .inl ⟨q,arr,hdn l _ _ e hq,hb,a1,a2,a3,fun j v ej=>?_⟩
      obtain ⟨x,hx,hv⟩:=a4 j v ej
      exact ⟨x,hx,VR.closed (g:=g') (fun _ _ _ e=>e) (ltNL_get e2 ej) hv⟩
     ·exact .inr ⟨hdn l _ _ e hq,a1⟩
    | mp es =>
     obtain ⟨q,arr,cl,hq,hb,a1,a2,a3⟩:=hb
     refine ⟨q,arr,cl,hdn l _ _ e hq,hb,a1,a2,fun j k v en c d=>?_⟩
     have:=a3 j k v en c d
     have hn:=ltNE_get e2 c
     exact ⟨VR.closed (g:=g') (fun _ _ _ e=>e) hn.1 this.1,VR.closed (g:=g') (fun _ _ _ e=>e) hn.2 this.2⟩
   ·have a:=h.blk l B h1
    cases B with
    | row ty cs =>
     rcases hb with ⟨q,arr,hq,hb,b1,b2,b3,b4⟩ | ⟨hq,b1⟩
     ·refine .inl ⟨q,arr,hdn l _ _ e hq,hb,b1,b2,b3,fun j v ej=>?_⟩
      obtain ⟨x,hx,hv⟩:=b4 j v ej
      rcases a with ⟨q0,arr0,_,_,_,_,_,k4⟩ | ⟨_,k1⟩
      ·obtain ⟨x0,_,hv0⟩:=k4 j v ej
       exact ⟨x,hx,hv.res hle.1 hv0⟩
      ·subst k1; simp at ej
     ·exact .inr ⟨hdn l _ _ e hq,b1⟩
    | mp es =>
     obtain ⟨q,arr,cl,hq,hb,b1,b2,b3⟩:=hb
     obtain ⟨q0,arr0,cl0,hq0,_,k1,_,k3⟩:=a
     refine ⟨q,arr,cl,hdn l _ _ e hq,hb,b1,b2,fun j k v en c d=>?_⟩
     have hj:j < arr0.size:=by rw [k1]; exact (List.getElem?_eq_some_iff.1 c).1
     have:=k3 j k v arr0[j] c (Array.getElem?_eq_getElem hj)
     exact ⟨(b3 j k v en c d).1.res hle.1 this.1,(b3 j k v en c d).2.res hle.1 this.2⟩
  sep:=fun l l' B B' p p' a b hne hp hp'=>h'.sep l l' B B' p p' a b hne (hle.1 _ _ hp) (hle.1 _ _ hp')
  imm:=h'.imm
  sepI:=fun l B p a hp=>h'.sepI l B p a (hle.1 _ _ hp)
  le0:=⟨h.le0.1,fun b o x e=>hle.2 b o x (h.le0.2 b o x e)⟩
  os:=h'.os
  tape:=h'.tape
  output:=h'.output
  size:=h'.size
  keep:=h'.keep
  own:=fun l B p a hp=>h'.own l B p a (hle.1 _ _ hp)
  immNew:=h'.immNew
  exact:=fun l ty cs p a hp he=>h'.exact l ty cs p a (hle.1 _ _ hp) he }
end Go.SL
