import Derived.Test.YtgbcmddacencjaaDoorCards
import Derived.Test.YtgbcmddacencjaaDoorTie
import Derived.Test.YtgbcmddacencjaaDoorKa
import Derived.Test.YtgbcmddacencjaaDoorHe
import Derived.WalkKit
import Derived.ProofKit
import Derived.OpenShut
import Derived.Deep.DeepHandedRow
import Derived.Lib.LaidTab
set_option linter.unusedSimpArgs false
set_option linter.unusedVariables false
namespace Go.Proofs.YtgbcmddacencjaaDoor.checkSlots
open Go.ChangeShapes Go.WideShapes Go.ChangeAt Go.RowKit Go.SL
theorem own:ownKnob Tryd.prog.godebug = none:=by kernel_rfl
theorem laidOut:laidOutB Tryd.prog = true:=by kernel_rfl
theorem gTab : Tryd.prog.globalNamed "internal/strconv.uint64pow10" = some 0 := by kernel_rfl
theorem gTabT:(Tryd.prog.globals[0]?).map (·.type) = some 159:=by kernel_rfl
theorem gMax : Tryd.prog.globalNamed "internal/bytealg.MaxLen" = some 1 := by kernel_rfl
theorem cellsI:Tryd.prog.cellsOf 3 = 1:=by kernel_rfl
theorem cellsU:Tryd.prog.cellsOf 151 = 1:=by kernel_rfl
theorem cellsT:Tryd.prog.cellsOf 159 = 20:=by kernel_rfl
theorem bytesI:Tryd.prog.bytesOf 3 = 8:=by kernel_rfl
theorem table {W : World} (h : laidMetH Tryd.prog Rows.checkSlotsRow.laid W) : Lib.TabIs Tryd.prog W "internal/strconv.uint64pow10" .u64 Lib.pow10Tab := by
 have h1 := laidMetH.filter (fun x => x.1 == "internal/strconv.uint64pow10") h
 have e : List.filter (fun x => x.1 == "internal/strconv.uint64pow10") Rows.checkSlotsRow.laid = [("internal/strconv.uint64pow10", Lib.tabData .u64 Lib.pow10Tab)] := by kernel_rfl
 rw [e] at h1
 exact Lib.tabIs_of_head (rest:=[]) gTab gTabT Tryd.underlying159 Tryd.underlying151 cellsU cellsT h1
set_option maxRecDepth 100000 in
theorem maxLen_int {W:World} (h:W.ShapedOpen Tryd.prog):∃ m,W.cell? ⟨1,0,none⟩ = some (.int .i64 m):=by
 obtain ⟨cs,h1,h2,h3⟩:=h.1 1 #[.int .i64 0] 3 (of_decide_eq_true (by kernel_rfl)) (by kernel_rfl)
 obtain ⟨ts,t1,t2,t3⟩:=h3 (by kernel_rfl)
 have e:Tryd.prog.cellTypes Tryd.prog.depth 3 = some [3]:=by kernel_rfl
 obtain rfl:[3] = ts:=Option.some.inj (e.symm.trans t1)
 have hs:cs.size = 1:=h2
 have hv:cs[0]? = some cs[0]:=Array.getElem?_eq_getElem (by omega)
 obtain ⟨u,hu,hc⟩:=t3 0 _ hv
 obtain rfl:3 = u:=Option.some.inj hu
 have hcell:W.cell? ⟨1,0,none⟩ = cs[0]?:=by simp [World.cell?,h1]
 rw [hcell,hv]
 revert hc
 simp only [Cell.ok,Tryd.underlying3]
 cases cs[0] <;> simp_all
theorem glob {W:World} (hL:laidMetH Tryd.prog Rows.checkSlotsRow.laid W) (hS:W.ShapedOpen Tryd.prog):GL Tryd.prog W :=
 ⟨fun k hk=>by
  obtain rfl:1 = k:=Option.some.inj (gMax.symm.trans hk)
  exact maxLen_int hS,table hL⟩
theorem calls2 {P:Program} {f:FuncId} {a b:AV} (h:Ctr P f [a,b] [] 0 fun r hp1 n1=>r = .ret (.bool true)) {W:World} (hg:GL P W) {x y:Value} (hx:VR (G0 W) a x) (hy:VR (G0 W) b y) :
  Calls P f #[x,y] W fun e w'=>e = .returned (.bool true)∧Below W.heap.size W w' :=
 (h.2 (E0 W) (fun _=>True) (G0 W) W [x,y] (fun _ _=>trivial) (mem0 hg) (VRs.cons hx (VRs.cons hy (VRs.nil _)))).mono fun e w' ⟨r,hm',nx',g',h1,h2,h3,h4,hp1,h5,h6⟩=>by
  subst h6
  refine ⟨?_,h2.os,h2.tape,h2.output,h2.size,fun k hk=>h2.keep k hk id⟩
  cases e with
  | returned v =>
   have h1:VR g' (.bool true) v:=h1
   cases h1
   rfl
  | _=>exact h1.elim
set_option maxRecDepth 100000 in
theorem contract (H:Type) (enc:TypeId × Value→H) (W:World) (base:Nat) (args:Array Value) (ds gs:List (DataW H)) (before:List MemPlace)
  (hval:∀ (j:Nat) t v,Tryd.f6.params[j]? = some t→args[j]? = some v→Value.okWide Tryd.prog W .any base t v)
  (hW:DataW.Whole enc Tryd.prog Tryd.f6.params.toList Rows.checkSlotsSpec.vars false W args.toList ds gs before)
  (hsz:(DataW.weightsEach Tryd.prog Tryd.f6.params.toList ds).all (·≤reachBytes) = true) (hL:laidMetH Tryd.prog Rows.checkSlotsRow.laid W) (hS:W.ShapedOpen Tryd.prog) :
  Calls Tryd.prog 6 args W fun e W'=>∃ v,e = .returned v∧Rows.checkSlotsSpec.post enc Tryd.prog Tryd.f6 false true false false W args v W':=by
 have hW':=hW
 obtain ⟨p,q,hA0,hV,rfl,hfz,hnd⟩:=hW
 have hA:DataW.TrodAll enc Tryd.prog W 0 (fun _=>true) true Tryd.f6.params.toList args.toList ds p:=hA0
 rw [Tryd.params6] at hA hval hsz
 obtain ⟨v0,v1,d0,d1,p0,p1,rfl,rfl,rfl,h0,h1⟩:=trodAll_two hA
 obtain ⟨rfl,rfl⟩:=trodVars_none hV
 simp only [List.append_nil] at hW'
 have hlt:=hW'.lt
 have hok:=hval 0 22 v0 rfl rfl
 obtain ⟨w,rfl,_,_,_⟩:=Go.ChangeMaps.open_string Tryd.underlying9 (hval 1 9 v1 rfl rfl) h1
 have key:∃ l:Arr Int,l.n < 281474976710656∧VR (G0 W) (ints l) v0:=by
  obtain ⟨a0,len,cap,rfl⟩:=okWide_slice Tryd.underlying22 hok
  obtain ⟨fuel,hf⟩:=h0
  rcases open_ints Tryd.underlying22 Tryd.underlying3 cellsI hf with ⟨hcs,hx⟩ | ⟨a,len',cap',zs,hcs,_,hl,hm,hz,hx,hcell,hwz⟩
  ·simp [Value.cells] at hcs
   obtain ⟨rfl,rfl,rfl⟩:=hcs
   exact ⟨⟨0,fun i=>([]:List Int).getD i 0⟩,by show 0 < 281474976710656; omega,.lst 1 0 _ _ (.list0 1)⟩
  ·simp [Value.cells] at hcs
   obtain ⟨rfl,rfl,rfl⟩:=hcs
   simp only [if_true] at hz
   simp only [Prod.mk.injEq] at hx
   obtain ⟨rfl,_⟩:=hx
   have ha:a.spot = none:=by
    have h:=hok
    simp only [Value.okWide,Cell.okWide,Cell.ok,Tryd.underlying22] at h
    exact h.2.2.2.1
   obtain ⟨b,off,spot⟩:=a
   have ha:spot = none:=ha
   subst ha
   have hlen:(len + (cap - len)) * 8≤reachBytes:=by
    have:=List.all_eq_true.1 hsz ((len + (cap - len)) * 8) (by simp [DataW.weightsEach,DataW.weights,Tryd.underlying22,bytesI,lits,hz]; left; omega)
    simpa using this
   rw [show reachBytes = 140737488351232 from rfl] at hlen
   exact ⟨⟨len,fun i=>zs.getD i 0⟩,by show len < 281474976710656; omega,vr_ints (len:=len) hl (by omega) fun j hj=>by rw [← add_plain]; exact hcell j hj⟩
 obtain ⟨l,hl,hv⟩:=key
 refine (calls2 (slots_ctr l hl w) (glob hL hS) hv (.str w)).mono fun e W' ⟨he,hb⟩=>?_
 subst he
 exact ⟨_,rfl,post_below hW' hb (fun _ _ _=>trodAll_mk1 (shut_bool Tryd.underlying4 _))
  (fun sp hsp=>trodAll_mk2 (WideElems.Trod_stays laidOut (by kernel_rfl) (of_decide_eq_true (by kernel_rfl)) h0 (fun x hx=>hb.same (hlt x (List.mem_append_left _ hx))) (fun x hx=>hsp x (List.mem_append_left _ hx))) (WideElems.Trod_stays laidOut (by kernel_rfl) (of_decide_eq_true (by kernel_rfl)) h1 (fun x hx=>hb.same (hlt x (List.mem_append_right _ hx))) (fun x hx=>hsp x (List.mem_append_right _ hx)))) (fun _=>rfl) (ok_one (by kernel_rfl) rfl (okWide_bool_mk Tryd.underlying4 _))⟩
def lit1:DataW Unit→Value
 | .lit (.int k n)=>.int k n
 | _=>.nilFunc
def cells1:DataW Unit→List Value
 | .agg xs=>xs.map lit1
 | _=>[]
def cells2:DataW Unit→List Value
 | .agg xs=>xs.flatMap cells1
 | _=>[]
def put (cs:List Value):Obj→Obj
 | .cells _ t frozen=>.cells cs.toArray t frozen
 | o=>o
noncomputable def laidWorld (os:Os):World :=
 { World.holding Tryd.prog os ⟨#[],#[],[]⟩ with heap:=(((((((((((World.holding Tryd.prog os ⟨#[],#[],[]⟩).heap).modify 0 (put (cells1 Rows.laid_internal_strconv_uint64pow10)))).modify 4 (put (cells1 Rows.laid_math_bits_deBruijn32tab)))).modify 5 (put (cells1 Rows.laid_math_bits_deBruijn64tab)))).modify 2 (put (cells1 Rows.laid_unicode_utf8_first)))).modify 3 (put (cells2 Rows.laid_unicode_utf8_acceptRanges))) }
theorem laid_met (os:Os):laidMet Tryd.prog Rows.checkSlotsRow.laid ((laidWorld os).forCall (fun _ _=>0) ⟨#[],#[.slice none 0 0,.string ⟨#[]⟩],[]⟩).memory :=
 laidMet_of_run' 8 (by kernel_rfl) (by kernel_rfl)
theorem reads (os:Os) {H:Type} (enc:TypeId × Value→H):∃ places,DataW.whole enc Tryd.prog ((laidWorld os).forCall (fun _ _=>0) ⟨#[],#[.slice none 0 0,.string ⟨#[]⟩],[]⟩).memory Tryd.f6.params.toList Rows.checkSlotsSpec.vars false #[Value.slice none 0 0,Value.string ⟨#[]⟩].toList 8 = some ([.nil,.lit (.string [])],[],places) :=
 ⟨[],by kernel_rfl⟩
set_option maxRecDepth 100000 in
theorem lifted (os:Os) (started:os.Started) (H:Type) (enc:TypeId × Value→H) (F:Stop.Interp) :
  ReturnsInHanded {} Tryd.checked os 6 .any ((OpenSpec.ofChange Rows.checkSlotsSpec).preRow enc Tryd.prog Tryd.f6 Rows.checkSlotsRow.domain false Rows.checkSlotsRow.laid) (((OpenSpec.ofChange Rows.checkSlotsSpec).at F).post enc Tryd.prog Tryd.f6 false true false false):=by
 obtain ⟨places,hx⟩:=reads os enc
 refine returnsInHanded_of_row (C:=Tryd.checked) (s:=OpenSpec.ofChange Rows.checkSlotsSpec) own started (by kernel_rfl) Tryd.func6
  (witness_row_at (enc:=enc) (C:=Tryd.checked) false (laidWorld os) #[.slice none 0 0,.string ⟨#[]⟩] rfl (by kernel_rfl) (by kernel_rfl) (by kernel_rfl)
   (OpenSpec.preRow_of_cond 8 hx (by kernel_rfl) (fun k hk=>by cases hk) (by kernel_rfl) (laid_met os))) ?_
 intro W base args ds gs before hval hW _ _ hsz hL hS _
 obtain ⟨p,q,hA0,hV,e,hfz,hnd⟩:=id hW
 obtain ⟨rfl,rfl⟩:=trodVars_none hV
 have hsz':(DataW.weightsEach Tryd.prog (Tryd.f6.params.toList ++ []) (ds ++ [])).all (·≤reachBytes) = true:=hsz
 rw [List.append_nil,List.append_nil] at hsz'
 exact contract H enc W base args ds [] before hval hW hsz' hL hS
theorem said:Rows.CheckSlotsSaid :=
 OpenClaim.holds_of_cond 6 Tryd.f6 rfl rfl rfl rfl rfl rfl rfl ⟨rfl,rfl,rfl,rfl,rfl⟩ rfl rfl rfl rfl rfl (by kernel_rfl) Tryd.func6 (by kernel_rfl)
  (of_decide_eq_true (by kernel_rfl)) (by unfold Func.isWrapper; first | (rw [if_pos (by decide +kernel)]; kernel_rfl) | (rw [if_neg (by decide +kernel)]; exact ⟨rfl,rfl⟩))
  (fun os started H enc _ F=>by rw [OpenClaim.pre_eq_preRow]; exact lifted os started H enc F)
theorem plain (f : FuncId) (fn : Func) (hf : Tryd.pinned.checked.prog.funcNamed "facsimile/facsimilelaw02.CheckSlots" = some f) (hfn : Tryd.pinned.checked.prog.funcs[f]? = some fn) :
  true = Tryd.pinned.checked.prog.looks []∧∀ (j:Nat) t,fn.params[j]? = some t→Tryd.pinned.checked.prog.wantsStandIn t = false:=by
 obtain rfl : f = 6 := Option.some.inj ((show Tryd.prog.funcNamed "facsimile/facsimilelaw02.CheckSlots" = some 6 by kernel_rfl).symm.trans hf) |>.symm
 obtain rfl:fn = Tryd.f6:=(Option.some.inj (Tryd.func6.symm.trans hfn)).symm
 refine ⟨by kernel_rfl,fun j t ht=>?_⟩
 rw [Tryd.params6] at ht
 have h2:t = 22∨t = 9:=by simpa using Array.mem_of_getElem? ht
 rcases h2 with rfl | rfl
 ·exact (show Tryd.prog.wantsStandIn 22 = false by kernel_rfl)
 ·exact (show Tryd.prog.wantsStandIn 9 = false by kernel_rfl)
theorem card:Rows.CheckSlotsCardSaid :=
 Claim7.holds_tied_plain_at .later [] _ _ _ _ said (fun _ h=>by cases h) (by kernel_rfl) (fun _ h=>by cases h) checkSlots_row_tie rfl ⟨rfl,rfl⟩ (by kernel_rfl) rfl plain (by kernel_rfl)
end Go.Proofs.YtgbcmddacencjaaDoor.checkSlots
#print axioms Go.Proofs.YtgbcmddacencjaaDoor.checkSlots.card
