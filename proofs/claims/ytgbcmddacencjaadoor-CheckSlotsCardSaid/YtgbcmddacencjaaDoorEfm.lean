import Derived.Test.YtgbcmddacencjaaDoorEc
import Derived.Test.YtgbcmddacencjaaDoorFw
import Derived.Test.YtgbcmddacencjaaDoorFjm
import Derived.Test.YtgbcmddacencjaaDoorGam
import Derived.Test.YtgbcmddacencjaaDoorVfm
set_option linter.unusedSimpArgs false
set_option linter.unusedVariables false
namespace Go.SL
structure SeenM (es:List (AV × AV)) (Q:ByteArray→Bool):Prop where
 closed:ltNB 0 (.mp es) = true
 keys:∀ s,keysB (.str s) es = true
 look:∀ s,lookF (.str s) (.bool false) es = .bool (Q s)
theorem SeenM.nil {Q:ByteArray→Bool} (h:∀ s,Q s = false):SeenM [] Q:=⟨rfl,fun _=>rfl,fun s=>by rw [h]; rfl⟩
theorem setF_hit {t:ByteArray}:∀ {es:List (AV × AV)},keysB (.str t) es = true→lookF (.str t) (.bool false) (setF (.str t) (.bool true) es) = .bool true
 | [],_=>by simp [setF,lookF,keyEq]
 | (a,u) :: r,h=>by
  simp only [keysB,List.all_cons,Bool.and_eq_true] at h
  cases a with
  | str a =>
   simp only [setF,keyEq]
   by_cases e:t = a
   ·subst e; simp [lookF,keyEq]
   ·simp only [e,decide_false,lookF,keyEq]
    exact setF_hit (es:=r) h.2
  | _=>simp [keyEq] at h
theorem SeenM.set {es:List (AV × AV)} {Q Q':ByteArray→Bool} (h:SeenM es Q) (t:ByteArray) (hq:∀ s,Q' s = (Q s || decide (s = t))):SeenM (setF (.str t) (.bool true) es) Q' :=
 ⟨setF_closed h.closed,fun s=>setF_keys (h.keys s),fun s=>by
  by_cases e:s = t
  ·subst e; rw [setF_hit (h.keys s),hq]; simp
  ·rw [setF_look e (h.keys s),h.look,hq]; simp [e]⟩
def preB (l:Arr ByteArray) (k:Nat) (s:ByteArray):Bool:=(List.range k).any fun j=>decide (s = l.f j)
theorem preB_zero (l:Arr ByteArray) (s:ByteArray):preB l 0 s = false:=rfl
theorem preB_succ (l:Arr ByteArray) (k:Nat) (s:ByteArray):preB l (k + 1) s = (preB l k s || decide (s = l.f k)):=by
 unfold preB; rw [List.range_succ,List.any_append]; simp
theorem preB_no {l:Arr ByteArray} {k:Nat} {s:ByteArray} (h:∀ j,j < k→¬ s = l.f j):preB l k s = false:=by
 unfold preB
 rw [List.any_eq_false]
 intro j hj
 simpa using h j (by simpa using hj)
theorem preB_yes {l:Arr ByteArray} {k j:Nat} {s:ByteArray} (hj:j < k) (h:s = l.f j):preB l k s = true:=by
 unfold preB
 rw [List.any_eq_true]
 exact ⟨j,by simpa using hj,decide_eq_true h⟩
theorem preB_slot (l:Arr ByteArray) (s:ByteArray):preB l l.n s = decide (¬ slotI l s < 0):=by
 rcases idxI_cases l.n (fun j=>decide (s = l.f j)) with ⟨k,h1,h2,_,e⟩ | ⟨h1,e⟩
 ·rw [slotI,e,preB_yes h1 (of_decide_eq_true h2),decide_eq_true (by omega)]
 ·rw [slotI,e,preB_no fun j hj=>of_decide_eq_false (h1 j hj),decide_eq_false (by omega)]
def inL (acc:List ByteArray) (s:ByteArray):Bool:=acc.any fun t=>decide (s = t)
theorem getD_is {l:List ByteArray} {i:Nat} (h:i < l.length):l.getD i eB = l[i]:=by simp [List.getD,List.getElem?_eq_getElem h]
theorem slots_pre:∀ {xs:List Ln} {acc:List ByteArray},∃ r,slotsF acc xs = acc ++ r
 | [],acc=>⟨[],by simp [slotsF]⟩
 | x :: xs,acc=>by
  have h1:∀ (vs acc:List ByteArray),∃ r,vs.foldl addV acc = acc ++ r:=by
   intro vs
   induction vs with
   | nil=>intro acc; exact ⟨[],by simp⟩
   | cons v vs ih =>
    intro acc
    obtain ⟨r,h⟩:=ih (addV acc v)
    rw [List.foldl_cons,h]
    unfold addV
    split
    ·exact ⟨r,rfl⟩
    ·exact ⟨[v] ++ r,by simp⟩
  obtain ⟨r1,e1⟩:=h1 (varsL x) acc
  obtain ⟨r2,e2⟩:=slots_pre (xs:=xs) (acc:=(varsL x).foldl addV acc)
  exact ⟨r1 ++ r2,by show slotsF ((varsL x).foldl addV acc) xs = _; rw [e2,e1,List.append_assoc]⟩
structure SlI (p:Pg) (f:Nat):Prop where
 nd:∀ i j,i < j→j < ((infOf p).slots.f f).n→¬ ((infOf p).slots.f f).f i = ((infOf p).slots.f f).f j
 pre:(p.funcs.f f).params.n≤((infOf p).slots.f f).n∧∀ j,j < (p.funcs.f f).params.n→((infOf p).slots.f f).f j = (p.funcs.f f).params.f j
 all:∀ j,j < (p.funcs.f f).lines.n→∀ s ∈ varsL ((p.funcs.f f).lines.f j),∃ i,i < ((infOf p).slots.f f).n∧s = ((infOf p).slots.f f).f i
 small:((infOf p).slots.f f).n≤24
theorem arr_nd {l:Arr ByteArray} (h:DistOK l):(arrL l).Nodup:=by
 rw [List.nodup_iff_pairwise_ne,List.pairwise_iff_getElem]
 intro i j hi hj hij
 simp only [arrL,List.length_map,List.length_range] at hi hj
 simpa [arrL] using h.2.2 i j hij hj
theorem made_slots {p:Pg} (h:MadeOK p) {f:Nat} (hf:f < p.funcs.n):SlI p f:=by
 have hF:=(made_ok h).1.ok.fns f hf
 have hs:=(made_fn h hf).sl
 have hn:(slotsF (arrL (p.funcs.f f).params) (arrL (p.funcs.f f).lines)).Nodup:=slots_nd (arr_nd hF.dist)
 obtain ⟨r,hr⟩:=slots_pre (xs:=arrL (p.funcs.f f).lines) (acc:=arrL (p.funcs.f f).params)
 have hsm:=hF.slots
 rw [SLat,List.take_of_length_le (by rw [arrL_len]; exact Nat.le_refl _)] at hsm
 rw [List.nodup_iff_pairwise_ne,List.pairwise_iff_getElem] at hn
 refine ⟨?_,?_,?_,by rw [hs]; exact hsm⟩
 ·rw [hs]
  intro i j hij hj e
  have hj:j < (slotsF (arrL (p.funcs.f f).params) (arrL (p.funcs.f f).lines)).length:=hj
  have e:List.getD _ i eB = List.getD _ j eB:=e
  rw [getD_is (by omega),getD_is hj] at e
  exact hn i j (by omega) hj hij e
 ·rw [hs,hr]
  refine ⟨by show _≤(_ ++ r).length; rw [List.length_append,arrL_len]; omega,fun j hj=>?_⟩
  show List.getD (arrL (p.funcs.f f).params ++ r) j eB = _
  rw [List.getD_eq_getElem?_getD,List.getElem?_append_left (by rw [arrL_len]; exact hj),← List.getD_eq_getElem?_getD,arrL_get hj]
 ·rw [hs]
  intro j hj s hm
  have:=slots_mem (xs:=arrL (p.funcs.f f).lines) (acc:=arrL (p.funcs.f f).params) (t:=s) |>.2 (.inr ⟨_,List.mem_map.2 ⟨j,List.mem_range.2 hj,rfl⟩,hm⟩)
  obtain ⟨i,hi,e⟩:=List.getElem_of_mem this
  exact ⟨i,hi,by show s = List.getD _ i eB; rw [getD_is hi,e]⟩
theorem SlI.slot {p:Pg} {f:Nat} (h:SlI p f) {k:Nat} (hk:k < ((infOf p).slots.f f).n):slotI ((infOf p).slots.f f) (((infOf p).slots.f f).f k) = k :=
 idxI_found hk (decide_eq_true rfl) fun j hj=>decide_eq_false fun e=>h.nd j k hj hk e.symm
theorem seen_yes {p:Pg} {f k j b:Nat} (h:SlI p f) (hk:((infOf p).slots.f f).n≤k) (hj:j < (p.funcs.f f).lines.n) (hb:b < (varsL ((p.funcs.f f).lines.f j)).length):preB ((infOf p).slots.f f) k ((varsL ((p.funcs.f f).lines.f j)).getD b eB) = true:=by
 obtain ⟨i,h1,h2⟩:=h.all j hj _ (getD_mem (d:=eB) hb)
 exact preB_yes (by omega) h2
theorem SeenM.congr {es:List (AV × AV)} {Q Q':ByteArray→Bool} (h:SeenM es Q) (e:∀ s,Q' s = Q s):SeenM es Q':=⟨h.closed,h.keys,fun s=>by rw [h.look,e]⟩
theorem inL_arr (l:Arr ByteArray) (s:ByteArray):inL (arrL l) s = preB l l.n s:=by
 unfold inL preB arrL; rw [List.any_map]; rfl
theorem inL_addV (acc:List ByteArray) (t s:ByteArray):inL (addV acc t) s = (inL acc s || decide (s = t)):=by
 rw [Bool.eq_iff_iff,Bool.or_eq_true]
 have e:∀ (l:List ByteArray) (s:ByteArray),inL l s = true ↔ s ∈ l:=fun l s=>by
  unfold inL; rw [List.any_eq_true]
  exact ⟨fun ⟨x,h1,h2⟩=>(of_decide_eq_true h2) ▸ h1,fun h=>⟨s,h,decide_eq_true rfl⟩⟩
 rw [e,e,addV_mem,decide_eq_true_eq]
theorem addV_old {acc:List ByteArray} {s:ByteArray} (h:inL acc s = true):addV acc s = acc:=by
 unfold addV
 rw [if_pos]
 unfold inL at h
 rw [List.any_eq_true] at h ⊢
 obtain ⟨x,h1,h2⟩:=h
 exact ⟨x,h1,decide_eq_true (of_decide_eq_true h2).symm⟩
theorem addV_new {acc:List ByteArray} {s:ByteArray} (h:inL acc s = false):addV acc s = acc ++ [s]:=by
 unfold addV
 rw [if_neg]
 intro hc
 rw [List.any_eq_true] at hc
 obtain ⟨x,h1,h2⟩:=hc
 unfold inL at h
 rw [List.any_eq_false] at h
 exact h x h1 (decide_eq_true (of_decide_eq_true h2).symm)
abbrev slN (p:Pg) (f j:Nat):List ByteArray:=slotsF (arrL (p.funcs.f f).params) ((arrL (p.funcs.f f).lines).take j)
abbrev slB (p:Pg) (f j b:Nat):List ByteArray:=((varsL ((p.funcs.f f).lines.f j)).take b).foldl addV (slN p f j)
theorem slN_zero (p:Pg) (f:Nat):slN p f 0 = arrL (p.funcs.f f).params:=rfl
theorem slB_succ {p:Pg} {f j b:Nat} (h:b < (varsL ((p.funcs.f f).lines.f j)).length):slB p f j (b + 1) = addV (slB p f j b) ((varsL ((p.funcs.f f).lines.f j)).getD b eB):=take_var h
theorem slN_succ {p:Pg} {f j:Nat} (h:j < (p.funcs.f f).lines.n) {b:Nat} (hb:¬ b < (varsL ((p.funcs.f f).lines.f j)).length):slB p f j b = slN p f (j + 1):=by
 have e:(varsL ((p.funcs.f f).lines.f j)).take b = varsL ((p.funcs.f f).lines.f j):=List.take_of_length_le (by omega)
 rw [slB,slN,slN,e,arr_succ h,slotsF,slotsF,List.foldl_append]
 rfl
theorem slN_all {p:Pg} (h:MadeOK p) {f:Nat} (hf:f < p.funcs.n) {j:Nat} (hj:¬ j < (p.funcs.f f).lines.n):(slN p f j).length = ((infOf p).slots.f f).n:=by
 rw [slN,List.take_of_length_le (by rw [arrL_len]; omega),(made_fn h hf).sl]; rfl
theorem slN_len {p:Pg} (h:MadeOK p) {f:Nat} (hf:f < p.funcs.n) {j:Nat} (hj:j≤(p.funcs.f f).lines.n):(slN p f j).length≤8 + 11 * j:=by
 have hF:=(made_ok h).1.ok.fns f hf
 exact SLat_len hF.pars hF.args hj
theorem slB_len {p:Pg} (h:MadeOK p) {f:Nat} (hf:f < p.funcs.n) {j:Nat} (hj:j < (p.funcs.f f).lines.n) (b:Nat):(slB p f j b).length≤1000:=by
 have hF:=(made_ok h).1.ok.fns f hf
 have h1:=slN_len h hf (j:=j) (by omega)
 have h2:=foldV_len (vs:=(varsL ((p.funcs.f f).lines.f j)).take b) (acc:=slN p f j)
 have h3:=varsL_len (x:=(p.funcs.f f).lines.f j)
 have h4:=hF.args j hj
 have h5:=((made_ok h).1.fb f hf).small
 have h6:((varsL ((p.funcs.f f).lines.f j)).take b).length≤(varsL ((p.funcs.f f).lines.f j)).length:=by rw [List.length_take]; exact Nat.min_le_right _ _
 show (List.foldl addV _ _).length≤_
 omega
end Go.SL
namespace Go.SL
open Go.Proofs
def neL (s:ByteArray):List ByteArray:=if s = eB then [] else [s]
def accV (x:Ln) (j:Nat):List ByteArray:=neL x.a ++ neL x.b ++ neL x.c ++ filtE ((arrL x.args).take j)
theorem neL_pos {s:ByteArray} (h:¬ s = eB):neL s = [s]:=if_neg h
theorem neL_neg {s:ByteArray} (h:s = eB):neL s = []:=if_pos h
theorem neL_l1 (s:ByteArray):(neL s).length≤1:=by unfold neL; split <;> simp
theorem neL_l2 (s t:ByteArray):(neL s ++ neL t).length≤2:=by
 have:=neL_l1 s; have:=neL_l1 t; rw [List.length_append]; omega
theorem neL_l3 (s t u:ByteArray):(neL s ++ neL t ++ neL u).length≤3:=by
 have:=neL_l2 s t; have:=neL_l1 u; rw [List.length_append]; omega
theorem neL_filt (s:ByteArray):neL s = [s].filter fun s=>!decide (s = eB):=by unfold neL; by_cases h:s = eB <;> simp [h]
theorem accV_all (x:Ln) {j:Nat} (h:¬ j < x.args.n):accV x j = varsL x:=by
 unfold accV varsL
 rw [List.take_of_length_le (by rw [arrL_len]; omega),neL_filt,neL_filt,neL_filt,show [x.a,x.b,x.c] = [x.a] ++ [x.b] ++ [x.c] from rfl,List.filter_append,List.filter_append,List.filter_append]
 rfl
theorem accV_take {x:Ln} {j:Nat} (h:j < x.args.n):(arrL x.args).take (j + 1) = (arrL x.args).take j ++ [x.args.f j]:=by
 rw [List.take_add_one]
 congr 1
 have:(arrL x.args)[j]? = some (x.args.f j):=by simp [arrL,List.getElem?_map,List.getElem?_range h]
 rw [this]; rfl
theorem accV_yes {x:Ln} {j:Nat} (h:j < x.args.n) (he:¬ x.args.f j = eB):accV x j ++ [x.args.f j] = accV x (j + 1):=by
 unfold accV; rw [accV_take h,filtE,filtE,List.filter_append,List.filter_cons,if_pos (by simpa [neE] using he)]; simp
theorem accV_no {x:Ln} {j:Nat} (h:j < x.args.n) (he:x.args.f j = eB):accV x j = accV x (j + 1):=by
 unfold accV; rw [accV_take h,filtE,filtE,List.filter_append,List.filter_cons,if_neg (by simp [neE,he])]; simp
theorem accV_len (x:Ln) (j:Nat):(accV x j).length≤3 + j:=by
 unfold accV
 have h1:∀ s,(neL s).length≤1:=fun s=>by unfold neL; split <;> simp
 have:=h1 x.a; have:=h1 x.b; have:=h1 x.c
 have h2:(filtE ((arrL x.args).take j)).length≤j:=Nat.le_trans (List.length_filter_le _ _) (by rw [List.length_take]; exact Nat.min_le_left _ _)
 simp only [List.length_append]; omega
theorem rvars_ctr (x:Ln) (hx:x.args.n≤8):Ctr Tryd.prog 15 [.agg (lnC x)] [] 0 (fun r hp1 n1=>r = .ret (strs (ofL eB (varsL x)))∧hp1 = []∧n1 = 0):=by
 have q1:=neL_l1 x.a
 have q2:=neL_l2 x.a x.b
 have q3:=neL_l3 x.a x.b x.c
 refine ctr_body Tryd.func15 rfl (by kernel_rfl) Tryd.ntmps15 rfl rfl fun E hE=>?_
 refine g0 pcs_ok 12 [] (.op 28 0 [cN 29,cN 15]) ⟨[(1,.ptr 0 0),(3,.nilSlice)],[(0,.row 45 (lnC x))],1⟩ ([]) aN ?_
 refine go_to ⟨[(3,.slice 1 0 0 1),(1,.ptr 0 0),(3,.nilSlice)],[(1,.row 9 []),(0,.row 45 (lnC x))],2⟩ (cv_nil 9 1 (3,none) (by kernel_rfl)) ?_
 refine go_to ⟨[(3,.slice 1 0 0 1),(1,.ptr 0 0)],[(1,.row 9 []),(0,.row 45 (lnC x))],2⟩ (cvR hE [0,1]) ?_
 refine go_cut (.op 60 0 [cN 61,cN 31]) ⟨[(1,.ptr 0 0),(3,.slice 1 0 (List.length (neL x.a)) 1)],[(0,.row 45 (lnC x)),(1,.row 9 (stL (neL x.a)))],2⟩ (fun hk1=>?_) ?_
 ·skip
  refine g0 pcs_ok 5 [] (.go [cN 29,cN 15]) ⟨[(1,.ptr 0 0),(3,.slice 1 0 0 1),(7,.bool (!decide (x.a = (bs []))))],[(0,.row 45 (lnC x)),(1,.row 9 [])],2⟩ ([]) aN ?_
  by_cases h2:x.a = (bs [])
  ·refine gb 7 false (!decide (x.a = (bs []))) (ndecF h2) ?_
   refine g0 pcs_ok 5 [] (.op 60 0 [cN 61,cN 31]) ⟨[(1,.ptr 0 0),(3,.slice 1 0 0 1)],[(0,.row 45 (lnC x)),(1,.row 9 [])],2⟩ ([]) aN ?_
   refine go_to ⟨[(1,.ptr 0 0),(3,.slice 1 0 (List.length (neL x.a)) 1)],[(0,.row 45 (lnC x)),(1,.row 9 (stL (neL x.a)))],2⟩ (cvM hE [0,1] ⟨sR,sL (.slice 1 0 0 1) (Le.of_eq (congrArg (fun n=>AV.slice 1 0 n 1) (by first | (rw [neL_pos (s:=x.a) (by assumption)] <;> first | rfl | (simp; done) | (simp; omega)) | (rw [neL_neg (s:=x.a) (by assumption)] <;> first | rfl | (simp; done) | (simp; omega))))),toFR⟩ ⟨rR,rS ([]) stL_closed (LeL_of_eq (by first | (rw [neL_pos (s:=x.a) (by assumption)] <;> first | rfl | (simp; done) | (simp; omega)) | (rw [neL_neg (s:=x.a) (by assumption)] <;> first | rfl | (simp; done) | (simp; omega)))),toHR⟩) ?_
   refine go_to ⟨[(1,.ptr 0 0),(3,.slice 1 0 (List.length (neL x.a)) 1)],[(0,.row 45 (lnC x)),(1,.row 9 (stL (neL x.a)))],2⟩ (cvM hE [0,1] toFR ⟨rR,rS (stL (neL x.a)) (by first | exact stL_closed | exact intL_closed | exact prL_closed | rfl) (LeL.refl _),toHR⟩) ?_
   exact hk1
  ·refine gb 7 true (!decide (x.a = (bs []))) (ndec h2) ?_
   refine g0 pcs_ok 12 [] (.op 60 0 [cN 61,cN 31]) ⟨[(1,.ptr 0 0),(3,.slice 3 0 1 1)],[(0,.row 45 (lnC x)),(3,.row 9 [.str x.a])],4⟩ ([.b true,.b true]) (aT (aT aN)) ?_
   refine go_to ⟨[(1,.ptr 0 0),(3,.slice 3 0 (List.length (neL x.a)) 1)],[(0,.row 45 (lnC x)),(3,.row 9 (stL (neL x.a)))],4⟩ (cvM hE [0,1,2,3] ⟨sR,sL (.slice 3 0 1 1) (Le.of_eq (congrArg (fun n=>AV.slice 3 0 n 1) (by first | (rw [neL_pos (s:=x.a) (by assumption)] <;> first | rfl | (simp; done) | (simp; omega)) | (rw [neL_neg (s:=x.a) (by assumption)] <;> first | rfl | (simp; done) | (simp; omega))))),toFR⟩ ⟨rR,rS ([.str x.a]) stL_closed (LeL_of_eq (by first | (rw [neL_pos (s:=x.a) (by assumption)] <;> first | rfl | (simp; done) | (simp; omega)) | (rw [neL_neg (s:=x.a) (by assumption)] <;> first | rfl | (simp; done) | (simp; omega)))),toHR⟩) ?_
   refine go_to ⟨[(1,.ptr 0 0),(3,.slice 1 0 (List.length (neL x.a)) 1)],[(0,.row 45 (lnC x)),(1,.row 9 (stL (neL x.a)))],2⟩ (cvM hE [0,3] toFR ⟨rR,rS (stL (neL x.a)) (by first | exact stL_closed | exact intL_closed | exact prL_closed | rfl) (LeL.refl _),toHR⟩) ?_
   exact hk1
 ·skip
  refine go_cut (.op 124 0 [cN 125,cN 63]) ⟨[(1,.ptr 0 0),(3,.slice 1 0 (List.length (neL x.a ++ neL x.b)) 1)],[(0,.row 45 (lnC x)),(1,.row 9 (stL (neL x.a ++ neL x.b)))],2⟩ (fun hk3=>?_) ?_
  ·skip
   refine g0 pcs_ok 5 [] (.go [cN 61,cN 31]) ⟨[(1,.ptr 0 0),(3,.slice 1 0 (List.length (neL x.a)) 1),(15,.bool (!decide (x.b = (bs []))))],[(0,.row 45 (lnC x)),(1,.row 9 (stL (neL x.a)))],2⟩ ([]) aN ?_
   by_cases h4:x.b = (bs [])
   ·refine gb 15 false (!decide (x.b = (bs []))) (ndecF h4) ?_
    refine g0 pcs_ok 5 [] (.op 124 0 [cN 125,cN 63]) ⟨[(1,.ptr 0 0),(3,.slice 1 0 (List.length (neL x.a)) 1)],[(0,.row 45 (lnC x)),(1,.row 9 (stL (neL x.a)))],2⟩ ([]) aN ?_
    refine go_to ⟨[(1,.ptr 0 0),(3,.slice 1 0 (List.length (neL x.a ++ neL x.b)) 1)],[(0,.row 45 (lnC x)),(1,.row 9 (stL (neL x.a ++ neL x.b)))],2⟩ (cvM hE [0,1] ⟨sR,sL (.slice 1 0 (List.length (neL x.a)) 1) (Le.of_eq (congrArg (fun n=>AV.slice 1 0 n 1) (by first | (rw [neL_pos (s:=x.b) (by assumption)] <;> first | rfl | (simp; done) | (simp; omega)) | (rw [neL_neg (s:=x.b) (by assumption)] <;> first | rfl | (simp; done) | (simp; omega))))),toFR⟩ ⟨rR,rS (stL (neL x.a)) stL_closed (LeL_of_eq (by first | (rw [neL_pos (s:=x.b) (by assumption)] <;> first | rfl | (simp; done) | (simp; omega)) | (rw [neL_neg (s:=x.b) (by assumption)] <;> first | rfl | (simp; done) | (simp; omega)))),toHR⟩) ?_
    refine go_to ⟨[(1,.ptr 0 0),(3,.slice 1 0 (List.length (neL x.a ++ neL x.b)) 1)],[(0,.row 45 (lnC x)),(1,.row 9 (stL (neL x.a ++ neL x.b)))],2⟩ (cvM hE [0,1] toFR ⟨rR,rS (stL (neL x.a ++ neL x.b)) (by first | exact stL_closed | exact intL_closed | exact prL_closed | rfl) (LeL.refl _),toHR⟩) ?_
    exact hk3
   ·refine gb 15 true (!decide (x.b = (bs []))) (ndec h4) ?_
    refine g0 pcs_ok 12 [] (.op 124 0 [cN 125,cN 63]) ⟨[(1,.ptr 0 0),(3,.slice 3 0 ((List.length (neL x.a)) + 1) 1)],[(0,.row 45 (lnC x)),(3,.row 9 ((stL (neL x.a)) ++ [.str x.b]))],4⟩ ([.b true,.b (decide ((List.length (neL x.a)) * 1 = List.length (stL (neL x.a))∧((List.length (neL x.a)) + 1) * 16≤140737488355328))]) (aT (aD (⟨lnS,(by omega)⟩) aN)) ?_
    refine go_to ⟨[(1,.ptr 0 0),(3,.slice 3 0 ((List.length (neL x.a)) + 1) 1)],[(0,.row 45 (lnC x)),(3,.row 9 (stL ((neL x.a) ++ [x.b])))],4⟩ (cvM hE [0,1,2,3] toFR ⟨rR,rS ((stL (neL x.a)) ++ [.str x.b]) (by first | exact stL_closed | exact intL_closed | exact prL_closed | rfl) (LeL_of_eq (stL_append (b:=[x.b])).symm),toHR⟩) ?_
    refine go_to ⟨[(1,.ptr 0 0),(3,.slice 3 0 (List.length (neL x.a ++ neL x.b)) 1)],[(0,.row 45 (lnC x)),(3,.row 9 (stL (neL x.a ++ neL x.b)))],4⟩ (cvM hE [0,1,2,3] ⟨sR,sL (.slice 3 0 ((List.length (neL x.a)) + 1) 1) (Le.of_eq (congrArg (fun n=>AV.slice 3 0 n 1) (by first | (rw [neL_pos (s:=x.b) (by assumption)] <;> first | rfl | (simp; done) | (simp; omega)) | (rw [neL_neg (s:=x.b) (by assumption)] <;> first | rfl | (simp; done) | (simp; omega))))),toFR⟩ ⟨rR,rS (stL ((neL x.a) ++ [x.b])) stL_closed (LeL_of_eq (by first | (rw [neL_pos (s:=x.b) (by assumption)] <;> first | rfl | (simp; done) | (simp; omega)) | (rw [neL_neg (s:=x.b) (by assumption)] <;> first | rfl | (simp; done) | (simp; omega)))),toHR⟩) ?_
    refine go_to ⟨[(1,.ptr 0 0),(3,.slice 1 0 (List.length (neL x.a ++ neL x.b)) 1)],[(0,.row 45 (lnC x)),(1,.row 9 (stL (neL x.a ++ neL x.b)))],2⟩ (cvM hE [0,3] toFR ⟨rR,rS (stL (neL x.a ++ neL x.b)) (by first | exact stL_closed | exact intL_closed | exact prL_closed | rfl) (LeL.refl _),toHR⟩) ?_
    exact hk3
  ·skip
   refine go_cut (.op 252 0 [cN 253,cN 127]) ⟨[(1,.ptr 0 0),(3,.slice 1 0 (List.length (neL x.a ++ neL x.b ++ neL x.c)) 1)],[(0,.row 45 (lnC x)),(1,.row 9 (stL (neL x.a ++ neL x.b ++ neL x.c)))],2⟩ (fun hk5=>?_) ?_
   ·skip
    refine g0 pcs_ok 5 [] (.go [cN 125,cN 63]) ⟨[(1,.ptr 0 0),(3,.slice 1 0 (List.length (neL x.a ++ neL x.b)) 1),(23,.bool (!decide (x.c = (bs []))))],[(0,.row 45 (lnC x)),(1,.row 9 (stL (neL x.a ++ neL x.b)))],2⟩ ([]) aN ?_
    by_cases h6:x.c = (bs [])
    ·refine gb 23 false (!decide (x.c = (bs []))) (ndecF h6) ?_
     refine g0 pcs_ok 5 [] (.op 252 0 [cN 253,cN 127]) ⟨[(1,.ptr 0 0),(3,.slice 1 0 (List.length (neL x.a ++ neL x.b)) 1)],[(0,.row 45 (lnC x)),(1,.row 9 (stL (neL x.a ++ neL x.b)))],2⟩ ([]) aN ?_
     refine go_to ⟨[(1,.ptr 0 0),(3,.slice 1 0 (List.length (neL x.a ++ neL x.b ++ neL x.c)) 1)],[(0,.row 45 (lnC x)),(1,.row 9 (stL (neL x.a ++ neL x.b ++ neL x.c)))],2⟩ (cvM hE [0,1] ⟨sR,sL (.slice 1 0 (List.length (neL x.a ++ neL x.b)) 1) (Le.of_eq (congrArg (fun n=>AV.slice 1 0 n 1) (by first | (rw [neL_pos (s:=x.c) (by assumption)] <;> first | rfl | (simp; done) | (simp; omega)) | (rw [neL_neg (s:=x.c) (by assumption)] <;> first | rfl | (simp; done) | (simp; omega))))),toFR⟩ ⟨rR,rS (stL (neL x.a ++ neL x.b)) stL_closed (LeL_of_eq (by first | (rw [neL_pos (s:=x.c) (by assumption)] <;> first | rfl | (simp; done) | (simp; omega)) | (rw [neL_neg (s:=x.c) (by assumption)] <;> first | rfl | (simp; done) | (simp; omega)))),toHR⟩) ?_
     refine go_to ⟨[(1,.ptr 0 0),(3,.slice 1 0 (List.length (neL x.a ++ neL x.b ++ neL x.c)) 1)],[(0,.row 45 (lnC x)),(1,.row 9 (stL (neL x.a ++ neL x.b ++ neL x.c)))],2⟩ (cvM hE [0,1] toFR ⟨rR,rS (stL (neL x.a ++ neL x.b ++ neL x.c)) (by first | exact stL_closed | exact intL_closed | exact prL_closed | rfl) (LeL.refl _),toHR⟩) ?_
     exact hk5
    ·refine gb 23 true (!decide (x.c = (bs []))) (ndec h6) ?_
     refine g0 pcs_ok 12 [] (.op 252 0 [cN 253,cN 127]) ⟨[(1,.ptr 0 0),(3,.slice 3 0 ((List.length (neL x.a ++ neL x.b)) + 1) 1)],[(0,.row 45 (lnC x)),(3,.row 9 ((stL (neL x.a ++ neL x.b)) ++ [.str x.c]))],4⟩ ([.b true,.b (decide ((List.length (neL x.a ++ neL x.b)) * 1 = List.length (stL (neL x.a ++ neL x.b))∧((List.length (neL x.a ++ neL x.b)) + 1) * 16≤140737488355328))]) (aT (aD (⟨lnS,(by omega)⟩) aN)) ?_
     refine go_to ⟨[(1,.ptr 0 0),(3,.slice 3 0 ((List.length (neL x.a ++ neL x.b)) + 1) 1)],[(0,.row 45 (lnC x)),(3,.row 9 (stL ((neL x.a ++ neL x.b) ++ [x.c])))],4⟩ (cvM hE [0,1,2,3] toFR ⟨rR,rS ((stL (neL x.a ++ neL x.b)) ++ [.str x.c]) (by first | exact stL_closed | exact intL_closed | exact prL_closed | rfl) (LeL_of_eq (stL_append (b:=[x.c])).symm),toHR⟩) ?_
     refine go_to ⟨[(1,.ptr 0 0),(3,.slice 3 0 (List.length (neL x.a ++ neL x.b ++ neL x.c)) 1)],[(0,.row 45 (lnC x)),(3,.row 9 (stL (neL x.a ++ neL x.b ++ neL x.c)))],4⟩ (cvM hE [0,1,2,3] ⟨sR,sL (.slice 3 0 ((List.length (neL x.a ++ neL x.b)) + 1) 1) (Le.of_eq (congrArg (fun n=>AV.slice 3 0 n 1) (by first | (rw [neL_pos (s:=x.c) (by assumption)] <;> first | rfl | (simp; done) | (simp; omega)) | (rw [neL_neg (s:=x.c) (by assumption)] <;> first | rfl | (simp; done) | (simp; omega))))),toFR⟩ ⟨rR,rS (stL ((neL x.a ++ neL x.b) ++ [x.c])) stL_closed (LeL_of_eq (by first | (rw [neL_pos (s:=x.c) (by assumption)] <;> first | rfl | (simp; done) | (simp; omega)) | (rw [neL_neg (s:=x.c) (by assumption)] <;> first | rfl | (simp; done) | (simp; omega)))),toHR⟩) ?_
     refine go_to ⟨[(1,.ptr 0 0),(3,.slice 1 0 (List.length (neL x.a ++ neL x.b ++ neL x.c)) 1)],[(0,.row 45 (lnC x)),(1,.row 9 (stL (neL x.a ++ neL x.b ++ neL x.c)))],2⟩ (cvM hE [0,3] toFR ⟨rR,rS (stL (neL x.a ++ neL x.b ++ neL x.c)) (by first | exact stL_closed | exact intL_closed | exact prL_closed | rfl) (LeL.refl _),toHR⟩) ?_
     exact hk5
   ·skip
    refine g0 pcs_ok 4 [] (.go [cN 506,.b 0,cN 127]) ⟨[(1,.ptr 0 0),(3,.slice 1 0 (List.length (neL x.a ++ neL x.b ++ neL x.c)) 1),(4,iI 0)],[(0,.row 45 (lnC x)),(1,.row 9 (stL (neL x.a ++ neL x.b ++ neL x.c)))],2⟩ ([]) aN ?_
    refine go_loop (fun (j:Nat)=>⟨[(1,.ptr 0 0),(3,.slice 1 0 (List.length (accV x j)) 1),(4,nI j)],[(0,.row 45 (lnC x)),(1,.row 9 (stL (accV x j)))],2⟩) (fun (j:Nat)=>j≤x.args.n) (fun (j:Nat)=>x.args.n - j) (0:Nat) rfl (by exact Nat.zero_le _) (cvM hE [0,1] ⟨sR,sL (.slice 1 0 (List.length (neL x.a ++ neL x.b ++ neL x.c)) 1) (Le.of_eq (by simp [accV,filtE,ren,nth])),toFR⟩ ⟨rR,rS (stL (neL x.a ++ neL x.b ++ neL x.c)) stL_closed (LeL_of_eq (by simp [accV,filtE])),toHR⟩) ?_
    intro j hR70
    have hR7:j≤x.args.n:=hR70
    have hvl:=accV_len x j
    refine g0 pcs_ok 9 [] (.go [cN 4049,cN 2025]) ⟨[(1,.ptr 0 0),(3,.slice 1 0 (List.length (accV x j)) 1),(4,nI j),(33,.bool (decide ((j:Int) < (x.args.n:Int))))],[(0,.row 45 (lnC x)),(1,.row 9 (stL (accV x j)))],2⟩ ([]) aN ?_
    by_cases h8:(j:Int) < (x.args.n:Int)
    ·refine gb 33 true (decide ((j:Int) < (x.args.n:Int))) (decide_eq_true h8) ?_
     refine g0 pcs_ok 13 [] (.go [cN 16201,.b 1,cN 4051]) ⟨[(1,.ptr 0 0),(3,.slice 1 0 (List.length (accV x j)) 1),(4,nI j),(41,.bool (!decide ((x.args.f j) = (bs []))))],[(0,.row 45 (lnC x)),(1,.row 9 (stL (accV x j)))],2⟩ ([.b (ixB (j:Int) x.args.n)]) (aD (by omega) aN) ?_
     by_cases h9:(x.args.f j) = (bs [])
     ·refine gb 41 false (!decide ((x.args.f j) = (bs []))) (ndecF h9) ?_
      refine g0 pcs_ok 8 [] (.go []) ⟨[(1,.ptr 0 0),(3,.slice 1 0 (List.length (accV x j)) 1),(4,nI (j + 1))],[(0,.row 45 (lnC x)),(1,.row 9 (stL (accV x j)))],2⟩ ([.b (rng (((j + 1):Nat):Int))]) (aR (by omega) (by omega) aN) ?_
      refine go_again ((j + 1)) (by first | (dsimp only; omega) | omega) (by omega) (cvM hE [0,1] ⟨sR,sL (.slice 1 0 (List.length (accV x j)) 1) (Le.of_eq (by first | (rw [← accV_yes (by omega) (by assumption)]; simp [ren,nth]; done) | (rw [← accV_no (by omega) (by assumption)]; simp [ren,nth]; done))),toFR⟩ ⟨rR,rS (stL (accV x j)) stL_closed (LeL_of_eq (by first | rw [← accV_yes (by omega) (by assumption)] | rw [← accV_no (by omega) (by assumption)])),toHR⟩)
     ·refine gb 41 true (!decide ((x.args.f j) = (bs []))) (ndec h9) ?_
      refine g0 pcs_ok 18 [] (.go []) ⟨[(1,.ptr 0 0),(3,.slice 3 0 ((List.length (accV x j)) + 1) 1),(4,nI (j + 1))],[(0,.row 45 (lnC x)),(3,.row 9 ((stL (accV x j)) ++ [.str (x.args.f j)]))],4⟩ ([.b (rng (((j + 1):Nat):Int)),.b true,.b (decide ((List.length (accV x j)) * 1 = List.length (stL (accV x j))∧((List.length (accV x j)) + 1) * 16≤140737488355328)),.b (ixB (j:Int) x.args.n)]) (aR (by omega) (by omega) (aT (aD (⟨lnS,(by omega)⟩) (aD (by omega) aN)))) ?_
      refine go_to ⟨[(1,.ptr 0 0),(3,.slice 3 0 ((List.length (accV x j)) + 1) 1),(4,nI (j + 1))],[(0,.row 45 (lnC x)),(3,.row 9 (stL ((accV x j) ++ [(x.args.f j)])))],4⟩ (cvM hE [0,1,2,3] toFR ⟨rR,rS ((stL (accV x j)) ++ [.str (x.args.f j)]) (by first | exact stL_closed | exact intL_closed | exact prL_closed | rfl) (LeL_of_eq (stL_append (b:=[(x.args.f j)])).symm),toHR⟩) ?_
      refine go_again ((j + 1)) (by first | (dsimp only; omega) | omega) (by omega) (cvM hE [0,3] ⟨sR,sL (.slice 3 0 ((List.length (accV x j)) + 1) 1) (Le.of_eq (by first | (rw [← accV_yes (by omega) (by assumption)]; simp [ren,nth]; done) | (rw [← accV_no (by omega) (by assumption)]; simp [ren,nth]; done))),toFR⟩ ⟨rR,rS (stL ((accV x j) ++ [(x.args.f j)])) stL_closed (LeL_of_eq (by first | rw [← accV_yes (by omega) (by assumption)] | rw [← accV_no (by omega) (by assumption)])),toHR⟩)
    ·refine gb 33 false (decide ((j:Int) < (x.args.n:Int))) (decide_eq_false h8) ?_
     refine g0 pcs_ok 1 [] (.go [cN 8099,cN 2025]) ⟨[(3,.slice 1 0 (List.length (accV x j)) 1)],[(1,.row 9 (stL (accV x j)))],2⟩ ([]) aN ?_
     refine go_brk rfl rfl rfl ?_
     refine g0 pcs_ok 2 [] (.op 254 0 [cN 255]) ⟨[(3,.slice 1 0 (List.length (accV x j)) 1)],[(1,.row 9 (stL (accV x j)))],2⟩ ([]) aN ?_
     refine go_to _ (cv_freezeW 1 1 9 (stL (accV x j)) (List.length (accV x j)) (fun z_=>[AV.str (List.getD (accV x j) z_ eB)]) [] [(List.length (accV x j))] (by kernel_rfl) (stL_closed) (by rw [stL_len,Nat.mul_one]) (fun i hi=>stL_get hi) (by kernel_rfl) (by simp)) ?_
     refine g0 pcs_ok 4 [] (.go [cN 255]) ⟨[(2,.lst 1 (List.length (accV x j)) (fun z_=>[AV.str (List.getD (accV x j) z_ eB)]))],[],2⟩ ([]) aN ?_
     refine go_ret rfl ?_
     refine rf ⟨[(2,.lst 1 (List.length (accV x j)) (fun z_=>[AV.str (List.getD (accV x j) z_ eB)]))],[],0⟩ [.lst 1 (List.length (accV x j)) (fun z_=>[AV.str (List.getD (accV x j) z_ eB)])] (cvR hE []) ?_
     exact ⟨congrArg (fun l=>Ret.ret (strs (ofL eB l))) (accV_all x (by omega)),rfl,rfl⟩
end Go.SL
