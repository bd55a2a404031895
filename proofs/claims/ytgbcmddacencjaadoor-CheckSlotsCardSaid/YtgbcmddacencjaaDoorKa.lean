import Derived.Test.YtgbcmddacencjaaDoorVfm
import Derived.ProofKit
import Derived.OpenShut
import Derived.LaidSub
import Derived.Lib.LaidTab
set_option linter.unusedSimpArgs false
set_option linter.unusedVariables false
namespace Go.SL
open Go.ChangeShapes Go.WideShapes Go.RowKit
def G0 (w:World):G:=⟨fun _=>none,fun b o=>w.cell? ⟨b,o,none⟩⟩
def E0 (w:World):Env:=⟨w,G0 w,fun _=>False,fun _=>False,0,fun _ h=>h.elim,fun _ _=>rfl,[]⟩
theorem gl_later {P:Program} {W:World} (h:GL P W) (w':World) (hs:W.heap.size≤w'.heap.size) (hk:∀ b,b < W.heap.size→¬ False→w'.heap[b]? = W.heap[b]?):GL P w':=by
 have lt:∀ {b:Nat} {o:Obj},W.heap[b]? = some o→b < W.heap.size:=fun h=>(Array.getElem?_eq_some_iff.1 h).1
 refine ⟨fun k hg=>?_,?_⟩
 ·obtain ⟨m,hm⟩:=h.1 k hg
  refine ⟨m,?_⟩
  rw [← hm]
  exact World.cell?_of_block (w:=W) (hk k (imm_lt hm) id)
 ·have h2:=h.2
  unfold Lib.TabIs World.var? at h2 ⊢
  cases hg : P.globalNamed "internal/strconv.uint64pow10" with
  | none=>rw [hg] at h2; exact h2
  | some g =>
   rw [hg] at h2
   simp only [Option.bind_some] at h2 ⊢
   cases ho:W.heap[g]? with
   | none=>rw [ho] at h2; simp at h2
   | some o=>rw [hk g (lt ho) id]; exact h2
theorem mem0 {P:Program} {W:World} (h:GL P W):Mem P (E0 W) (fun _=>True) (lkh []) (G0 W) W where
 fresh:=fun _ _=>rfl
 blk:=fun l B e=>by simp [lkh] at e
 sep:=fun l l' B B' p p' e=>by simp [lkh] at e
 imm:=fun _ _ _ e=>e
 sepI:=fun l B p e=>by simp [lkh] at e
 le0:=G.le_refl _
 os:=rfl
 tape:=rfl
 output:=rfl
 size:=Nat.le_refl _
 keep:=fun _ _ _=>rfl
 own:=fun l B p e=>by simp [lkh] at e
 immNew:=fun _ _ _ e=>.inl e
 exact:=fun l ty cs p e=>by simp [lkh] at e
 gl:=fun w' a b=>gl_later h w' a b
theorem calls_of_ctr {P:Program} {f:FuncId} {a:AV} (h:Ctr P f [a] [] 0 fun r hp1 n1=>r = .ret (.bool true)) {W:World} (hg:GL P W) {x:Value} (hx:VR (G0 W) a x) :
  Calls P f #[x] W fun e w'=>e = .returned (.bool true)∧Below W.heap.size W w' :=
 (h.2 (E0 W) (fun _=>True) (G0 W) W [x] (fun _ _=>trivial) (mem0 hg) (VRs.cons hx (VRs.nil _))).mono fun e w' ⟨r,hm',nx',g',h1,h2,h3,h4,hp1,h5,h6⟩=>by
  subst h6
  refine ⟨?_,h2.os,h2.tape,h2.output,h2.size,fun k hk=>h2.keep k hk id⟩
  cases e with
  | returned v =>
   have h1:VR g' (.bool true) v:=h1
   cases h1
   rfl
  | _=>exact h1.elim
theorem vr_ints {W:World} {b off len cap:Nat} {zs:List Int} (hl:len≤cap) (hz:len≤zs.length) (h:∀ j,j < zs.length→W.cell? ⟨b,off + j,none⟩ = some (.int .i64 (zs.getD j 0))) :
  VR (G0 W) (.lst 1 len fun i=>[.int .i64 (zs.getD i 0)]) (.slice (some ⟨b,off,none⟩) len cap):=by
 have key:=VR.list (g:=G0 W) 1 ((List.range len).map fun i=>[AV.int .i64 (zs.getD i 0)]) b off cap (fun i _=>.int .i64 (zs.getD i 0)) (by simpa using hl)
  (fun cs hc=>by obtain ⟨i,_,rfl⟩:=List.mem_map.1 hc; rfl) (fun i cs j v h1 h2=>by
   rw [List.getElem?_map] at h1
   obtain ⟨i',hi,rfl⟩:=Option.map_eq_some_iff.1 h1
   obtain ⟨hi1,hi2⟩:=List.getElem?_eq_some_iff.1 hi
   simp only [List.getElem_range] at hi2
   subst hi2
   have hi3:i < len:=by simpa using hi1
   cases j with
   | succ j=>simp at h2
   | zero =>
    show W.cell? ⟨b,off + i * 1 + 0,none⟩ = _
    rw [Nat.mul_one,Nat.add_zero]
    exact h i (by omega)) (fun i cs j v h1 h2=>by
   rw [List.getElem?_map] at h1
   obtain ⟨i',hi,rfl⟩:=Option.map_eq_some_iff.1 h1
   obtain ⟨hi1,hi2⟩:=List.getElem?_eq_some_iff.1 hi
   simp only [List.getElem_range] at hi2
   subst hi2
   cases j with
   | succ j=>simp at h2
   | zero=>simp at h2; subst h2; exact .int _ _)
 rw [List.length_map,List.length_range] at key
 exact .lst _ _ _ _ key
theorem post_below {H:Type} {enc:TypeId × Value→H} {P:Program} {f:Func} {s:ChangeSpec} {apart fresh handsOn again:Bool} {W W':World} {args:Array Value} {v:Value} {ds gs:List (DataW H)} {before:List MemPlace}
  (hW:DataW.Whole enc P f.params.toList s.vars apart W args.toList ds gs before) (hb:Below W.heap.size W W')
  (hres:∀ (b:Nat) (sp:Nat→Bool) (hd:Bool),DataW.TrodAll enc P W' b sp hd f.resultTypes.toList (v.resultList f.resultTypes.size) (s.fn H (ds ++ gs)).results [])
  (hargs:∀ sp:Nat→Bool,(∀ p ∈ before,sp p.block = true)→DataW.TrodAll enc P W' 0 sp true f.params.toList args.toList (s.fn H (ds ++ gs)).args before)
  (hvars:∀ sp:Nat→Bool,DataW.TrodVars enc P W' sp s.vars (s.fn H (ds ++ gs)).vars [])
  (hok:∀ (j:Nat) (t:TypeId) (r:Value),f.resultTypes[j]? = some t→(v.resultList f.resultTypes.size)[j]? = some r→Value.okWide P W' .any 0 t r) :
  s.post enc P f apart fresh handsOn again W args v W':=by
 have hlt:=hW.lt
 have hin:∀ p ∈ before,(fun b=>decide (b < W.heap.size)) p.block = true:=fun p hp=>by simpa using hlt p hp
 refine ⟨ds,gs,before,[],before,[],hW,hres _ _ _,hargs _ hin,hvars _,World.keptBut_mono (fun p hp=>⟨hp,.inr (.inl hp)⟩) (hb.frame _),fun _=>?_⟩
 obtain ⟨_,_,_,_,_,hz,hn⟩:=hW
 refine ⟨hok,_,_,([] ++ before) ++ [],⟨[] ++ before,[],trodAll_append (hargs _ fun _ _=>rfl) (hres _ _ _),hvars _,rfl,fun b off hp=>?_,fun ha=>?_⟩,fun p hp _=>?_⟩
 ·have hp:MemPlace.cell b off ∈ before:=by simpa using hp
  rw [hb.frozen (p:=⟨b,off,none⟩) (hlt _ hp)]
  exact hz b off hp
 ·simpa using hn ha
 ·simpa using hp
end Go.SL
