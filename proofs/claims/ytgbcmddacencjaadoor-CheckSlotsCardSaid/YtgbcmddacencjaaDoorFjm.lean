import Derived.Test.YtgbcmddacencjaaDoorFxm
set_option linter.unusedSimpArgs false
set_option linter.unusedVariables false
namespace Go.SL
open Go.Proofs
def fnI (l:Arr Fc) (s:ByteArray):Int:=idxI l.n (fun j=>decide ((l.f j).name = s))
def clI (l:Arr Cl) (s:ByteArray):Int:=idxI l.n (fun j=>decide ((l.f j).name = s))
theorem idxfunc_ctr (l:Arr Fc) (hl:l.n < 1000000) (s:ByteArray):Ctr Tryd.prog 47 [fcs l,.func (.func 48) [] [.ptr 0 0]] [(0,.row 9 [.str s])] 1 (fun r hp1 n1=>r = .ret (.int .i64 (fnI l s))∧hp1 = [(0,.row 9 [.str s])]∧n1 = 1):=by
 refine ctr_body Tryd.func47 rfl (by kernel_rfl) Tryd.ntmps47 rfl rfl fun E hE=>?_
 refine g0 pcs_ok 12 [] (.go [cN 26,.b 0,cN 7]) ⟨[(0,fcs l),(1,.func (.func 48) [] [.ptr 0 0]),(7,nI l.n),(8,iI 0)],[(0,.row 9 [.str s])],1⟩ ([]) aN ?_
 refine go_loop (fun (k:Nat)=>⟨[(0,fcs l),(1,.func (.func 48) [] [.ptr 0 0]),(7,nI l.n),(8,nI k)],[(0,.row 9 [.str s])],1⟩) (fun (k:Nat)=>k≤l.n∧∀ j,j < k→decide ((l.f j).name = s) = false) (fun (k:Nat)=>l.n - k) (0:Nat) rfl (by exact ⟨by omega,fun j hj=>by omega⟩) (cvR hE [0]) ?_
 intro k hR10
 have hR1:k≤l.n∧∀ j,j < k→decide ((l.f j).name = s) = false:=hR10
 refine g0 pcs_ok 5 [] (.go [cN 210,cN 211]) ⟨[(0,fcs l),(1,.func (.func 48) [] [.ptr 0 0]),(7,nI l.n),(8,nI k),(9,.bool (decide ((k:Int) < (l.n:Int))))],[(0,.row 9 [.str s])],1⟩ ([]) aN ?_
 by_cases h2:(k:Int) < (l.n:Int)
 ·refine gb 9 true (decide ((k:Int) < (l.n:Int))) (decide_eq_true h2) ?_
  refine g0 pcs_ok 16 [] (.op 3378 5 [cN 3379,.b 1,cN 423]) ⟨[(0,fcs l),(1,.func (.func 48) [] [.ptr 0 0]),(5,nI k),(7,nI l.n),(8,nI k),(11,.func (.func 48) [] [.ptr 0 0]),(15,.agg (fcC (l.f k)))],[(0,.row 9 [.str s])],1⟩ ([.b (ixB (k:Int) l.n)]) (aD (by first | assumption | omega | (simp_all; done) | (simp_all; omega)) aN) ?_
  have hc3:Ctr Tryd.prog 48 [.agg (fcC (l.f k)),.ptr 0 0] [(0,.row 9 [.str s])] 1 (fun r hp1 n1=>r = .ret (.bool (decide ((l.f k).name = s)))∧hp1 = [(0,.row 9 [.str s])]∧n1 = 1):=by
   refine ctr_body Tryd.func48 rfl (by kernel_rfl) Tryd.ntmps48 rfl rfl fun E hE=>?_
   refine g0 pcs_ok 13 [] (.go [cN 7]) ⟨[(3,.bool (decide ((l.f k).name = s)))],[(0,.row 9 [.str s])],2⟩ ([]) aN ?_
   refine go_ret rfl ?_
   refine rf ⟨[(3,.bool (decide ((l.f k).name = s)))],[(0,.row 9 [.str s])],1⟩ [.bool (decide ((l.f k).name = s))] (cvR hE [0]) ?_
   exact ⟨rfl,rfl,rfl⟩
  refine gc (d:=some 16) [0] hc3 ?_
  rintro _ _ _ _ ⟨⟨⟩,rfl,rfl⟩
  refine g0 pcs_ok 2 [] (.go [cN 3379,.b 1,cN 423]) ⟨[(0,fcs l),(1,.func (.func 48) [] [.ptr 0 0]),(5,nI k),(7,nI l.n),(8,nI k),(16,.bool (decide ((l.f k).name = s)))],[(0,.row 9 [.str s])],1⟩ ([]) aN ?_
  by_cases h4:(l.f k).name = s
  ·refine gb 16 true (decide ((l.f k).name = s)) (decide_eq_true h4) ?_
   refine g0 pcs_ok 6 [] (.go [cN 13517,.b 1,cN 423]) ⟨[(4,nI k)],[(0,.row 9 [.str s])],1⟩ ([]) aN ?_
   refine go_ret rfl ?_
   refine rt_loop ?_
   refine rf ⟨[(4,nI k)],[(0,.row 9 [.str s])],1⟩ [nI k] (cvR hE [0]) ?_
   refine ⟨congrArg (fun x=>Ret.ret (AV.int .i64 x)) ?_,rfl,rfl⟩
   exact (idxI_found (by omega) (decide_eq_true h4) hR1.2).symm
  ·refine gb 16 false (decide ((l.f k).name = s)) (decide_eq_false h4) ?_
   refine g0 pcs_ok 7 [] (.go []) ⟨[(0,fcs l),(1,.func (.func 48) [] [.ptr 0 0]),(7,nI l.n),(8,nI (k + 1))],[(0,.row 9 [.str s])],1⟩ ([.b (rng (((k + 1):Nat):Int))]) (aR (by omega) (by omega) aN) ?_
   refine go_again ((k + 1)) (by first | (dsimp only; omega) | omega) (by exact ⟨by omega,all_succ hR1.2 (decide_eq_false h4)⟩) (cvR hE [0])
 ·refine gb 9 false (decide ((k:Int) < (l.n:Int))) (decide_eq_false h2) ?_
  refine g0 pcs_ok 1 [] (.go [cN 421,cN 211]) ⟨[],[(0,.row 9 [.str s])],1⟩ ([]) aN ?_
  refine go_brk rfl rfl rfl ?_
  refine g0 pcs_ok 4 [] (.go [cN 15]) ⟨[(4,iI (-1))],[(0,.row 9 [.str s])],1⟩ ([]) aN ?_
  refine go_ret rfl ?_
  refine rf ⟨[(4,iI (-1))],[(0,.row 9 [.str s])],1⟩ [iI (-1)] (cvR hE [0]) ?_
  refine ⟨congrArg (fun x=>Ret.ret (AV.int .i64 x)) ?_,rfl,rfl⟩
  exact (idxI_none fun j hj=>hR1.2 j (by omega)).symm
theorem func_ctr (p:Pg) (h:p.classes.n < 1000∧p.funcs.n < 1000) (s:ByteArray):Ctr Tryd.prog 25 [pgA p,.str s] [] 0 (fun r hp1 n1=>r = .ret (.int .i64 (fnI p.funcs s))∧hp1 = []∧n1 = 0):=by
 refine ctr_body Tryd.func25 rfl (by kernel_rfl) Tryd.ntmps25 rfl rfl fun E hE=>?_
 refine g0 pcs_ok 11 [] (.op 6 3 [cN 7]) ⟨[(6,fcs p.funcs),(7,.func (.func 48) [] [.ptr 1 0])],[(1,.row 9 [.str s])],2⟩ ([]) aN ?_
 refine gc (d:=some 8) [1] (idxfunc_ctr p.funcs (by omega) s) ?_
 rintro _ _ _ _ ⟨⟨⟩,rfl,rfl⟩
 refine g0 pcs_ok 3 [] (.go [cN 7]) ⟨[(4,iI (fnI p.funcs s))],[],2⟩ ([]) aN ?_
 refine go_ret rfl ?_
 refine rf ⟨[(4,iI (fnI p.funcs s))],[],0⟩ [iI (fnI p.funcs s)] (cvR hE []) ?_
 exact ⟨rfl,rfl,rfl⟩
theorem idxclass_ctr (l:Arr Cl) (hl:l.n < 1000000) (s:ByteArray):Ctr Tryd.prog 52 [cls l,.func (.func 53) [] [.ptr 0 0]] [(0,.row 9 [.str s])] 1 (fun r hp1 n1=>r = .ret (.int .i64 (clI l s))∧hp1 = [(0,.row 9 [.str s])]∧n1 = 1):=by
 refine ctr_body Tryd.func52 rfl (by kernel_rfl) Tryd.ntmps52 rfl rfl fun E hE=>?_
 refine g0 pcs_ok 12 [] (.go [cN 26,.b 0,cN 7]) ⟨[(0,cls l),(1,.func (.func 53) [] [.ptr 0 0]),(7,nI l.n),(8,iI 0)],[(0,.row 9 [.str s])],1⟩ ([]) aN ?_
 refine go_loop (fun (k:Nat)=>⟨[(0,cls l),(1,.func (.func 53) [] [.ptr 0 0]),(7,nI l.n),(8,nI k)],[(0,.row 9 [.str s])],1⟩) (fun (k:Nat)=>k≤l.n∧∀ j,j < k→decide ((l.f j).name = s) = false) (fun (k:Nat)=>l.n - k) (0:Nat) rfl (by exact ⟨by omega,fun j hj=>by omega⟩) (cvR hE [0]) ?_
 intro k hR10
 have hR1:k≤l.n∧∀ j,j < k→decide ((l.f j).name = s) = false:=hR10
 refine g0 pcs_ok 5 [] (.go [cN 210,cN 211]) ⟨[(0,cls l),(1,.func (.func 53) [] [.ptr 0 0]),(7,nI l.n),(8,nI k),(9,.bool (decide ((k:Int) < (l.n:Int))))],[(0,.row 9 [.str s])],1⟩ ([]) aN ?_
 by_cases h2:(k:Int) < (l.n:Int)
 ·refine gb 9 true (decide ((k:Int) < (l.n:Int))) (decide_eq_true h2) ?_
  refine g0 pcs_ok 16 [] (.op 3378 5 [cN 3379,.b 1,cN 423]) ⟨[(0,cls l),(1,.func (.func 53) [] [.ptr 0 0]),(5,nI k),(7,nI l.n),(8,nI k),(11,.func (.func 53) [] [.ptr 0 0]),(15,.agg [.str ((l.f k).name),strs ((l.f k).fields),mts ((l.f k).methods)])],[(0,.row 9 [.str s])],1⟩ ([.b (ixB (k:Int) l.n)]) (aD (by first | assumption | omega | (simp_all; done) | (simp_all; omega)) aN) ?_
  have hc3:Ctr Tryd.prog 53 [.agg [.str ((l.f k).name),strs ((l.f k).fields),mts ((l.f k).methods)],.ptr 0 0] [(0,.row 9 [.str s])] 1 (fun r hp1 n1=>r = .ret (.bool (decide ((l.f k).name = s)))∧hp1 = [(0,.row 9 [.str s])]∧n1 = 1):=by
   refine ctr_body Tryd.func53 rfl (by kernel_rfl) Tryd.ntmps53 rfl rfl fun E hE=>?_
   refine g0 pcs_ok 13 [] (.go [cN 7]) ⟨[(3,.bool (decide ((l.f k).name = s)))],[(0,.row 9 [.str s])],2⟩ ([]) aN ?_
   refine go_ret rfl ?_
   refine rf ⟨[(3,.bool (decide ((l.f k).name = s)))],[(0,.row 9 [.str s])],1⟩ [.bool (decide ((l.f k).name = s))] (cvR hE [0]) ?_
   exact ⟨rfl,rfl,rfl⟩
  refine gc (d:=some 16) [0] hc3 ?_
  rintro _ _ _ _ ⟨⟨⟩,rfl,rfl⟩
  refine g0 pcs_ok 2 [] (.go [cN 3379,.b 1,cN 423]) ⟨[(0,cls l),(1,.func (.func 53) [] [.ptr 0 0]),(5,nI k),(7,nI l.n),(8,nI k),(16,.bool (decide ((l.f k).name = s)))],[(0,.row 9 [.str s])],1⟩ ([]) aN ?_
  by_cases h4:(l.f k).name = s
  ·refine gb 16 true (decide ((l.f k).name = s)) (decide_eq_true h4) ?_
   refine g0 pcs_ok 6 [] (.go [cN 13517,.b 1,cN 423]) ⟨[(4,nI k)],[(0,.row 9 [.str s])],1⟩ ([]) aN ?_
   refine go_ret rfl ?_
   refine rt_loop ?_
   refine rf ⟨[(4,nI k)],[(0,.row 9 [.str s])],1⟩ [nI k] (cvR hE [0]) ?_
   refine ⟨congrArg (fun x=>Ret.ret (AV.int .i64 x)) ?_,rfl,rfl⟩
   exact (idxI_found (by omega) (decide_eq_true h4) hR1.2).symm
  ·refine gb 16 false (decide ((l.f k).name = s)) (decide_eq_false h4) ?_
   refine g0 pcs_ok 7 [] (.go []) ⟨[(0,cls l),(1,.func (.func 53) [] [.ptr 0 0]),(7,nI l.n),(8,nI (k + 1))],[(0,.row 9 [.str s])],1⟩ ([.b (rng (((k + 1):Nat):Int))]) (aR (by omega) (by omega) aN) ?_
   refine go_again ((k + 1)) (by first | (dsimp only; omega) | omega) (by exact ⟨by omega,all_succ hR1.2 (decide_eq_false h4)⟩) (cvR hE [0])
 ·refine gb 9 false (decide ((k:Int) < (l.n:Int))) (decide_eq_false h2) ?_
  refine g0 pcs_ok 1 [] (.go [cN 421,cN 211]) ⟨[],[(0,.row 9 [.str s])],1⟩ ([]) aN ?_
  refine go_brk rfl rfl rfl ?_
  refine g0 pcs_ok 4 [] (.go [cN 15]) ⟨[(4,iI (-1))],[(0,.row 9 [.str s])],1⟩ ([]) aN ?_
  refine go_ret rfl ?_
  refine rf ⟨[(4,iI (-1))],[(0,.row 9 [.str s])],1⟩ [iI (-1)] (cvR hE [0]) ?_
  refine ⟨congrArg (fun x=>Ret.ret (AV.int .i64 x)) ?_,rfl,rfl⟩
  exact (idxI_none fun j hj=>hR1.2 j (by omega)).symm
theorem class_ctr (p:Pg) (h:p.classes.n < 1000∧p.funcs.n < 1000) (s:ByteArray):Ctr Tryd.prog 39 [pgA p,.str s] [] 0 (fun r hp1 n1=>r = .ret (.int .i64 (clI p.classes s))∧hp1 = []∧n1 = 0):=by
 refine ctr_body Tryd.func39 rfl (by kernel_rfl) Tryd.ntmps39 rfl rfl fun E hE=>?_
 refine g0 pcs_ok 11 [] (.op 6 3 [cN 7]) ⟨[(6,cls p.classes),(7,.func (.func 53) [] [.ptr 1 0])],[(1,.row 9 [.str s])],2⟩ ([]) aN ?_
 refine gc (d:=some 8) [1] (idxclass_ctr p.classes (by omega) s) ?_
 rintro _ _ _ _ ⟨⟨⟩,rfl,rfl⟩
 refine g0 pcs_ok 3 [] (.go [cN 7]) ⟨[(4,iI (clI p.classes s))],[],2⟩ ([]) aN ?_
 refine go_ret rfl ?_
 refine rf ⟨[(4,iI (clI p.classes s))],[],0⟩ [iI (clI p.classes s)] (cvR hE []) ?_
 exact ⟨rfl,rfl,rfl⟩
end Go.SL
namespace Go.SL
open Go.Proofs
def hasC (F:ByteArray) (c:Int):Bool:=(List.range F.size).any fun k=>decide (byteAt F k = c)
def once (F:ByteArray) (c:Int):Bool:=(List.range F.size).all fun k=>!decide (byteAt F k = c) || (List.range k).all fun j=>!decide (byteAt F j = c)
def sel (b:Bool) (p q:Prop):Prop:=match b with | true=>p | false=>q
def chk (F:ByteArray) (A B C N T L:Bool):Bool:=decide (0 < F.size∧F.size≤20) && once F 65 && once F 66 && once F 67 && once F 78 && (hasC F 65 == A) && (hasC F 66 == B) && (hasC F 67 == C) && (hasC F 78 == N) && (hasC F 126 == T) && ((hasC F 76 || hasC F 73) == L) && !decide (byteAt F 0 = 126)
theorem has_of {F:ByteArray} {c:Int} {k:Nat} (hk:k < F.size) (h:byteAt F k = c):hasC F c = true:=by
 simp only [hasC,List.any_eq_true,List.mem_range,decide_eq_true_eq]; exact ⟨k,hk,h⟩
theorem has_ex {F:ByteArray} {c:Int} (h:hasC F c = true):∃ k,k < F.size∧byteAt F k = c:=by
 simpa [hasC] using h
theorem once_of {F:ByteArray} {c:Int} {k:Nat} (h:once F c = true) (hk:k < F.size) (hc:byteAt F k = c):∀ j,j < k→¬ byteAt F j = c:=by
 simp only [once,List.all_eq_true,List.mem_range,Bool.or_eq_true,Bool.not_eq_true',decide_eq_false_iff_not] at h
 exact (h k hk).resolve_left (fun e=>e hc)
theorem LineF.of (x:Ln) (F:ByteArray) (A B C N T L:Bool) (h1:lookF (.int .i64 x.op) (.str (bs [])) formsE = .str F) (h2:lookB (.int .i64 x.op) formsE = true) (hk:chk F A B C N T L = true)
  (ha:sel A (nameB x.a = true) (x.a = eB)) (hb:sel B (nameB x.b = true) (x.b = eB)) (hc:sel C (nameB x.c = true) (x.c = eB)) (hn:sel N (nameB x.name = true) (x.name = eB))
  (ht:sel T (x.args.n≤8∧∀ j,j < x.args.n→nameB (x.args.f j) = true) (x.args.n = 0)) (hl:sel L (LitOK ⟨x.kind,x.num,x.s⟩∧(hasC F 73 = true→x.kind = 3)) (x.kind = 0∧x.num = 0∧x.s = eB)):LineF x F:=by
 simp only [chk,Bool.and_eq_true,decide_eq_true_eq,Bool.not_eq_true',decide_eq_false_iff_not,beq_iff_eq] at hk
 obtain ⟨⟨⟨⟨⟨⟨⟨⟨⟨⟨⟨hp,oa⟩,ob⟩,oc⟩,on⟩,ea⟩,eb⟩,ec⟩,en⟩,et⟩,el⟩,e0⟩:=hk
 have key:∀ {c:Int} {b:Bool} {p q:Prop},hasC F c = b→sel b p q→∀ k,k < F.size→byteAt F k = c→p:=fun {c b p q} e s k hk hc=>by
  rw [has_of hk hc] at e; subst e; exact s
 have neg:∀ {c:Int} {b:Bool} {p q:Prop},hasC F c = b→sel b p q→(∃ j,j < F.size∧byteAt F j = c)∨q:=fun {c b p q} e s=>by
  cases b with
  | true=>exact .inl (has_ex e)
  | false=>exact .inr s
 exact {
  form:=h1
  has:=h2
  pos:=hp
  na:=fun k hk hc=>⟨key ea ha k hk hc,once_of oa hk hc⟩
  nb:=fun k hk hc=>⟨key eb hb k hk hc,once_of ob hk hc⟩
  nc:=fun k hk h=>⟨key ec hc k hk h,once_of oc hk h⟩
  nn:=fun k hk h=>⟨key en hn k hk h,once_of on hk h⟩
  nt:=fun k hk h=>⟨Nat.pos_of_ne_zero (fun e=>e0 (by rw [← e]; exact h)),key et ht k hk h⟩
  nl:=fun k hk h=>by
   have hh:(hasC F 76 || hasC F 73) = true:=by rcases h with h | h <;> simp [has_of hk h]
   rw [hh] at el; subst el
   exact ⟨hl.1,fun e=>hl.2 (has_of hk e)⟩
  ua:=neg ea ha
  ub:=neg eb hb
  uc:=neg ec hc
  un:=neg en hn
  ut:=neg et ht
  ul:=by
   cases L with
   | true =>
    simp only [Bool.or_eq_true] at el
    rcases el with e | e
    ·obtain ⟨j,h1,h2⟩:=has_ex e; exact .inl ⟨j,h1,.inl h2⟩
    ·obtain ⟨j,h1,h2⟩:=has_ex e; exact .inl ⟨j,h1,.inr h2⟩
   | false=>exact .inr hl }
theorem vars5_name {s:ByteArray} (h:s ∈ vars5):nameB s = true:=by
 simp only [vars5,List.mem_cons,List.not_mem_nil,or_false] at h
 rcases h with rfl | rfl | rfl | rfl | rfl <;> kernel_rfl
theorem getD2_name {a b:ByteArray} (ha:nameB a = true) (hb:nameB b = true):∀ j,j < 2→nameB ([a,b].getD j eB) = true
 | 0,_=>ha
 | 1,_=>hb
 | j + 2,h=>absurd h (by omega)
theorem getD1_name {a:ByteArray} (ha:nameB a = true):∀ j,j < 1→nameB ([a].getD j eB) = true
 | 0,_=>ha
 | j + 1,h=>absurd h (by omega)
theorem lf1 {x:Ln} (ho:x.op = 1) (ha:nameB x.a = true) (hb:x.b = eB) (hc:x.c = eB) (hn:x.name = eB) (ht:x.args.n = 0) (hl:LitOK ⟨x.kind,x.num,x.s⟩):LineF x (bs [65,32,61,32,76]):=LineF.of x _ true false false false false true (by rw [ho]; kernel_rfl) (by rw [ho]; kernel_rfl) (by kernel_rfl) ha hb hc hn ht ⟨hl,fun h=>absurd ((by kernel_rfl:hasC (bs [65,32,61,32,76]) 73 = false).symm.trans h) (by simp)⟩
theorem lf2 {x:Ln} (ho:x.op = 2) (ha:nameB x.a = true) (hb:nameB x.b = true) (hc:x.c = eB) (hn:x.name = eB) (ht:x.args.n = 0) (hl:x.kind = 0∧x.num = 0∧x.s = eB):LineF x (bs [65,32,61,32,66]):=LineF.of x _ true true false false false false (by rw [ho]; kernel_rfl) (by rw [ho]; kernel_rfl) (by kernel_rfl) ha hb hc hn ht hl
theorem lf3 {x:Ln} (ho:x.op = 3) (ha:nameB x.a = true) (hb:nameB x.b = true) (hc:x.c = eB) (hn:x.name = eB) (ht:x.args.n = 0) (hl:x.kind = 0∧x.num = 0∧x.s = eB):LineF x (bs [65,32,61,32,110,111,116,32,66]):=LineF.of x _ true true false false false false (by rw [ho]; kernel_rfl) (by rw [ho]; kernel_rfl) (by kernel_rfl) ha hb hc hn ht hl
theorem lf4 {x:Ln} (ho:x.op = 4) (ha:nameB x.a = true) (hb:nameB x.b = true) (hc:x.c = eB) (hn:x.name = eB) (ht:x.args.n = 0) (hl:x.kind = 0∧x.num = 0∧x.s = eB):LineF x (bs [65,32,61,32,110,101,103,32,66]):=LineF.of x _ true true false false false false (by rw [ho]; kernel_rfl) (by rw [ho]; kernel_rfl) (by kernel_rfl) ha hb hc hn ht hl
theorem lf5 {x:Ln} (ho:x.op = 5) (ha:nameB x.a = true) (hb:nameB x.b = true) (hc:nameB x.c = true) (hn:x.name = eB) (ht:x.args.n = 0) (hl:x.kind = 0∧x.num = 0∧x.s = eB):LineF x (bs [65,32,61,32,66,32,43,32,67]):=LineF.of x _ true true true false false false (by rw [ho]; kernel_rfl) (by rw [ho]; kernel_rfl) (by kernel_rfl) ha hb hc hn ht hl
theorem lf6 {x:Ln} (ho:x.op = 6) (ha:nameB x.a = true) (hb:nameB x.b = true) (hc:nameB x.c = true) (hn:x.name = eB) (ht:x.args.n = 0) (hl:x.kind = 0∧x.num = 0∧x.s = eB):LineF x (bs [65,32,61,32,66,32,45,32,67]):=LineF.of x _ true true true false false false (by rw [ho]; kernel_rfl) (by rw [ho]; kernel_rfl) (by kernel_rfl) ha hb hc hn ht hl
theorem lf7 {x:Ln} (ho:x.op = 7) (ha:nameB x.a = true) (hb:nameB x.b = true) (hc:nameB x.c = true) (hn:x.name = eB) (ht:x.args.n = 0) (hl:x.kind = 0∧x.num = 0∧x.s = eB):LineF x (bs [65,32,61,32,66,32,42,32,67]):=LineF.of x _ true true true false false false (by rw [ho]; kernel_rfl) (by rw [ho]; kernel_rfl) (by kernel_rfl) ha hb hc hn ht hl
theorem lf8 {x:Ln} (ho:x.op = 8) (ha:nameB x.a = true) (hb:nameB x.b = true) (hc:nameB x.c = true) (hn:x.name = eB) (ht:x.args.n = 0) (hl:x.kind = 0∧x.num = 0∧x.s = eB):LineF x (bs [65,32,61,32,66,32,47,32,67]):=LineF.of x _ true true true false false false (by rw [ho]; kernel_rfl) (by rw [ho]; kernel_rfl) (by kernel_rfl) ha hb hc hn ht hl
theorem lf9 {x:Ln} (ho:x.op = 9) (ha:nameB x.a = true) (hb:nameB x.b = true) (hc:nameB x.c = true) (hn:x.name = eB) (ht:x.args.n = 0) (hl:x.kind = 0∧x.num = 0∧x.s = eB):LineF x (bs [65,32,61,32,66,32,37,32,67]):=LineF.of x _ true true true false false false (by rw [ho]; kernel_rfl) (by rw [ho]; kernel_rfl) (by kernel_rfl) ha hb hc hn ht hl
theorem lf10 {x:Ln} (ho:x.op = 10) (ha:nameB x.a = true) (hb:nameB x.b = true) (hc:nameB x.c = true) (hn:x.name = eB) (ht:x.args.n = 0) (hl:x.kind = 0∧x.num = 0∧x.s = eB):LineF x (bs [65,32,61,32,66,32,60,32,67]):=LineF.of x _ true true true false false false (by rw [ho]; kernel_rfl) (by rw [ho]; kernel_rfl) (by kernel_rfl) ha hb hc hn ht hl
theorem lf11 {x:Ln} (ho:x.op = 11) (ha:nameB x.a = true) (hb:nameB x.b = true) (hc:nameB x.c = true) (hn:x.name = eB) (ht:x.args.n = 0) (hl:x.kind = 0∧x.num = 0∧x.s = eB):LineF x (bs [65,32,61,32,66,32,61,61,32,67]):=LineF.of x _ true true true false false false (by rw [ho]; kernel_rfl) (by rw [ho]; kernel_rfl) (by kernel_rfl) ha hb hc hn ht hl
theorem lf12 {x:Ln} (ho:x.op = 12) (ha:nameB x.a = true) (hb:nameB x.b = true) (hc:nameB x.c = true) (hn:x.name = eB) (ht:x.args.n = 0) (hl:x.kind = 0∧x.num = 0∧x.s = eB):LineF x (bs [65,32,61,32,66,32,97,110,100,32,67]):=LineF.of x _ true true true false false false (by rw [ho]; kernel_rfl) (by rw [ho]; kernel_rfl) (by kernel_rfl) ha hb hc hn ht hl
theorem lf13 {x:Ln} (ho:x.op = 13) (ha:nameB x.a = true) (hb:nameB x.b = true) (hc:nameB x.c = true) (hn:x.name = eB) (ht:x.args.n = 0) (hl:x.kind = 0∧x.num = 0∧x.s = eB):LineF x (bs [65,32,61,32,66,32,111,114,32,67]):=LineF.of x _ true true true false false false (by rw [ho]; kernel_rfl) (by rw [ho]; kernel_rfl) (by kernel_rfl) ha hb hc hn ht hl
theorem lf14 {x:Ln} (ho:x.op = 14) (ha:nameB x.a = true) (hb:nameB x.b = true) (hc:nameB x.c = true) (hn:x.name = eB) (ht:x.args.n = 0) (hl:x.kind = 0∧x.num = 0∧x.s = eB):LineF x (bs [65,32,61,32,66,32,46,32,67]):=LineF.of x _ true true true false false false (by rw [ho]; kernel_rfl) (by rw [ho]; kernel_rfl) (by kernel_rfl) ha hb hc hn ht hl
theorem lf15 {x:Ln} (ho:x.op = 15) (ha:nameB x.a = true) (hb:x.b = eB) (hc:x.c = eB) (hn:nameB x.name = true) (ht:x.args.n = 0) (hl:x.kind = 0∧x.num = 0∧x.s = eB):LineF x (bs [65,32,61,32,110,101,119,32,78]):=LineF.of x _ true false false true false false (by rw [ho]; kernel_rfl) (by rw [ho]; kernel_rfl) (by kernel_rfl) ha hb hc hn ht hl
theorem lf16 {x:Ln} (ho:x.op = 16) (ha:nameB x.a = true) (hb:nameB x.b = true) (hc:x.c = eB) (hn:nameB x.name = true) (ht:x.args.n = 0) (hl:x.kind = 0∧x.num = 0∧x.s = eB):LineF x (bs [65,32,61,32,66,46,78]):=LineF.of x _ true true false true false false (by rw [ho]; kernel_rfl) (by rw [ho]; kernel_rfl) (by kernel_rfl) ha hb hc hn ht hl
theorem lf17 {x:Ln} (ho:x.op = 17) (ha:nameB x.a = true) (hb:nameB x.b = true) (hc:x.c = eB) (hn:nameB x.name = true) (ht:x.args.n = 0) (hl:x.kind = 0∧x.num = 0∧x.s = eB):LineF x (bs [65,46,78,32,61,32,66]):=LineF.of x _ true true false true false false (by rw [ho]; kernel_rfl) (by rw [ho]; kernel_rfl) (by kernel_rfl) ha hb hc hn ht hl
theorem lf18 {x:Ln} (ho:x.op = 18) (ha:nameB x.a = true) (hb:nameB x.b = true) (hc:x.c = eB) (hn:x.name = eB) (ht:x.args.n = 0) (hl:x.kind = 0∧x.num = 0∧x.s = eB):LineF x (bs [65,32,61,32,97,114,114,97,121,32,66]):=LineF.of x _ true true false false false false (by rw [ho]; kernel_rfl) (by rw [ho]; kernel_rfl) (by kernel_rfl) ha hb hc hn ht hl
theorem lf19 {x:Ln} (ho:x.op = 19) (ha:nameB x.a = true) (hb:nameB x.b = true) (hc:nameB x.c = true) (hn:x.name = eB) (ht:x.args.n = 0) (hl:x.kind = 0∧x.num = 0∧x.s = eB):LineF x (bs [65,32,61,32,66,91,67,93]):=LineF.of x _ true true true false false false (by rw [ho]; kernel_rfl) (by rw [ho]; kernel_rfl) (by kernel_rfl) ha hb hc hn ht hl
theorem lf20 {x:Ln} (ho:x.op = 20) (ha:nameB x.a = true) (hb:nameB x.b = true) (hc:nameB x.c = true) (hn:x.name = eB) (ht:x.args.n = 0) (hl:x.kind = 0∧x.num = 0∧x.s = eB):LineF x (bs [65,91,66,93,32,61,32,67]):=LineF.of x _ true true true false false false (by rw [ho]; kernel_rfl) (by rw [ho]; kernel_rfl) (by kernel_rfl) ha hb hc hn ht hl
theorem lf21 {x:Ln} (ho:x.op = 21) (ha:nameB x.a = true) (hb:nameB x.b = true) (hc:x.c = eB) (hn:x.name = eB) (ht:x.args.n = 0) (hl:x.kind = 0∧x.num = 0∧x.s = eB):LineF x (bs [65,32,61,32,108,101,110,32,66]):=LineF.of x _ true true false false false false (by rw [ho]; kernel_rfl) (by rw [ho]; kernel_rfl) (by kernel_rfl) ha hb hc hn ht hl
theorem lf22 {x:Ln} (ho:x.op = 22) (ha:nameB x.a = true) (hb:x.b = eB) (hc:x.c = eB) (hn:nameB x.name = true) (ht:x.args.n≤8∧∀ j,j < x.args.n→nameB (x.args.f j) = true) (hl:x.kind = 0∧x.num = 0∧x.s = eB):LineF x (bs [65,32,61,32,99,97,108,108,32,78,126]):=LineF.of x _ true false false true true false (by rw [ho]; kernel_rfl) (by rw [ho]; kernel_rfl) (by kernel_rfl) ha hb hc hn ht hl
theorem lf23 {x:Ln} (ho:x.op = 23) (ha:nameB x.a = true) (hb:x.b = eB) (hc:x.c = eB) (hn:nameB x.name = true) (ht:x.args.n≤8∧∀ j,j < x.args.n→nameB (x.args.f j) = true) (hl:x.kind = 0∧x.num = 0∧x.s = eB):LineF x (bs [65,32,61,32,98,105,110,100,32,78,126]):=LineF.of x _ true false false true true false (by rw [ho]; kernel_rfl) (by rw [ho]; kernel_rfl) (by kernel_rfl) ha hb hc hn ht hl
theorem lf24 {x:Ln} (ho:x.op = 24) (ha:nameB x.a = true) (hb:nameB x.b = true) (hc:x.c = eB) (hn:x.name = eB) (ht:x.args.n≤8∧∀ j,j < x.args.n→nameB (x.args.f j) = true) (hl:x.kind = 0∧x.num = 0∧x.s = eB):LineF x (bs [65,32,61,32,97,112,112,108,121,32,66,126]):=LineF.of x _ true true false false true false (by rw [ho]; kernel_rfl) (by rw [ho]; kernel_rfl) (by kernel_rfl) ha hb hc hn ht hl
theorem lf25 {x:Ln} (ho:x.op = 25) (ha:nameB x.a = true) (hb:nameB x.b = true) (hc:x.c = eB) (hn:nameB x.name = true) (ht:x.args.n≤8∧∀ j,j < x.args.n→nameB (x.args.f j) = true) (hl:x.kind = 0∧x.num = 0∧x.s = eB):LineF x (bs [65,32,61,32,115,101,110,100,32,66,32,78,126]):=LineF.of x _ true true false true true false (by rw [ho]; kernel_rfl) (by rw [ho]; kernel_rfl) (by kernel_rfl) ha hb hc hn ht hl
theorem lf26 {x:Ln} (ho:x.op = 26) (ha:nameB x.a = true) (hb:nameB x.b = true) (hc:x.c = eB) (hn:x.name = eB) (ht:x.args.n = 0) (hl:x.kind = 0∧x.num = 0∧x.s = eB):LineF x (bs [65,32,61,32,119,101,97,107,32,66]):=LineF.of x _ true true false false false false (by rw [ho]; kernel_rfl) (by rw [ho]; kernel_rfl) (by kernel_rfl) ha hb hc hn ht hl
theorem lf27 {x:Ln} (ho:x.op = 27) (ha:nameB x.a = true) (hb:nameB x.b = true) (hc:x.c = eB) (hn:x.name = eB) (ht:x.args.n = 0) (hl:x.kind = 0∧x.num = 0∧x.s = eB):LineF x (bs [65,32,61,32,100,101,114,101,102,32,66]):=LineF.of x _ true true false false false false (by rw [ho]; kernel_rfl) (by rw [ho]; kernel_rfl) (by kernel_rfl) ha hb hc hn ht hl
theorem lf28 {x:Ln} (ho:x.op = 28) (ha:nameB x.a = true) (hb:x.b = eB) (hc:x.c = eB) (hn:nameB x.name = true) (ht:x.args.n = 0) (hl:x.kind = 0∧x.num = 0∧x.s = eB):LineF x (bs [102,105,110,97,108,32,65,32,78]):=LineF.of x _ true false false true false false (by rw [ho]; kernel_rfl) (by rw [ho]; kernel_rfl) (by kernel_rfl) ha hb hc hn ht hl
theorem lf29 {x:Ln} (ho:x.op = 29) (ha:nameB x.a = true) (hb:x.b = eB) (hc:x.c = eB) (hn:x.name = eB) (ht:x.args.n = 0) (hl:x.kind = 0∧x.num = 0∧x.s = eB):LineF x (bs [112,114,105,110,116,32,65]):=LineF.of x _ true false false false false false (by rw [ho]; kernel_rfl) (by rw [ho]; kernel_rfl) (by kernel_rfl) ha hb hc hn ht hl
theorem lf30 {x:Ln} (ho:x.op = 30) (ha:nameB x.a = true) (hb:x.b = eB) (hc:x.c = eB) (hn:x.name = eB) (ht:x.args.n = 0) (hl:x.kind = 0∧x.num = 0∧x.s = eB):LineF x (bs [65,32,61,32,105,110,112,117,116]):=LineF.of x _ true false false false false false (by rw [ho]; kernel_rfl) (by rw [ho]; kernel_rfl) (by kernel_rfl) ha hb hc hn ht hl
theorem lf31 {x:Ln} (ho:x.op = 31) (ha:nameB x.a = true) (hb:x.b = eB) (hc:x.c = eB) (hn:x.name = eB) (ht:x.args.n = 0) (hl:x.kind = 0∧x.num = 0∧x.s = eB):LineF x (bs [65,32,61,32,99,108,111,99,107]):=LineF.of x _ true false false false false false (by rw [ho]; kernel_rfl) (by rw [ho]; kernel_rfl) (by kernel_rfl) ha hb hc hn ht hl
theorem lf32 {x:Ln} (ho:x.op = 32) (ha:x.a = eB) (hb:x.b = eB) (hc:x.c = eB) (hn:nameB x.name = true) (ht:x.args.n≤8∧∀ j,j < x.args.n→nameB (x.args.f j) = true) (hl:LitOK ⟨x.kind,x.num,x.s⟩∧x.kind = 3):LineF x (bs [115,112,97,119,110,32,73,32,78,126]):=LineF.of x _ false false false true true true (by rw [ho]; kernel_rfl) (by rw [ho]; kernel_rfl) (by kernel_rfl) ha hb hc hn ht ⟨hl.1,fun _=>hl.2⟩
theorem lf33 {x:Ln} (ho:x.op = 33) (ha:x.a = eB) (hb:x.b = eB) (hc:x.c = eB) (hn:x.name = eB) (ht:x.args.n = 0) (hl:x.kind = 0∧x.num = 0∧x.s = eB):LineF x (bs [121,105,101,108,100]):=LineF.of x _ false false false false false false (by rw [ho]; kernel_rfl) (by rw [ho]; kernel_rfl) (by kernel_rfl) ha hb hc hn ht hl
theorem lf34 {x:Ln} (ho:x.op = 34) (ha:nameB x.a = true) (hb:x.b = eB) (hc:x.c = eB) (hn:x.name = eB) (ht:x.args.n = 0) (hl:x.kind = 0∧x.num = 0∧x.s = eB):LineF x (bs [116,104,114,111,119,32,65]):=LineF.of x _ true false false false false false (by rw [ho]; kernel_rfl) (by rw [ho]; kernel_rfl) (by kernel_rfl) ha hb hc hn ht hl
theorem lf35 {x:Ln} (ho:x.op = 35) (ha:nameB x.a = true) (hb:x.b = eB) (hc:x.c = eB) (hn:x.name = eB) (ht:x.args.n = 0) (hl:x.kind = 0∧x.num = 0∧x.s = eB):LineF x (bs [114,101,116,117,114,110,32,65]):=LineF.of x _ true false false false false false (by rw [ho]; kernel_rfl) (by rw [ho]; kernel_rfl) (by kernel_rfl) ha hb hc hn ht hl
theorem lf36 {x:Ln} (ho:x.op = 36) (ha:nameB x.a = true) (hb:x.b = eB) (hc:x.c = eB) (hn:x.name = eB) (ht:x.args.n = 0) (hl:x.kind = 0∧x.num = 0∧x.s = eB):LineF x (bs [105,102,32,65]):=LineF.of x _ true false false false false false (by rw [ho]; kernel_rfl) (by rw [ho]; kernel_rfl) (by kernel_rfl) ha hb hc hn ht hl
theorem lf37 {x:Ln} (ho:x.op = 37) (ha:x.a = eB) (hb:x.b = eB) (hc:x.c = eB) (hn:x.name = eB) (ht:x.args.n = 0) (hl:x.kind = 0∧x.num = 0∧x.s = eB):LineF x (bs [101,108,115,101]):=LineF.of x _ false false false false false false (by rw [ho]; kernel_rfl) (by rw [ho]; kernel_rfl) (by kernel_rfl) ha hb hc hn ht hl
theorem lf38 {x:Ln} (ho:x.op = 38) (ha:nameB x.a = true) (hb:x.b = eB) (hc:x.c = eB) (hn:x.name = eB) (ht:x.args.n = 0) (hl:x.kind = 0∧x.num = 0∧x.s = eB):LineF x (bs [119,104,105,108,101,32,65]):=LineF.of x _ true false false false false false (by rw [ho]; kernel_rfl) (by rw [ho]; kernel_rfl) (by kernel_rfl) ha hb hc hn ht hl
theorem lf39 {x:Ln} (ho:x.op = 39) (ha:x.a = eB) (hb:x.b = eB) (hc:x.c = eB) (hn:x.name = eB) (ht:x.args.n = 0) (hl:x.kind = 0∧x.num = 0∧x.s = eB):LineF x (bs [116,114,121]):=LineF.of x _ false false false false false false (by rw [ho]; kernel_rfl) (by rw [ho]; kernel_rfl) (by kernel_rfl) ha hb hc hn ht hl
theorem lf40 {x:Ln} (ho:x.op = 40) (ha:nameB x.a = true) (hb:x.b = eB) (hc:x.c = eB) (hn:x.name = eB) (ht:x.args.n = 0) (hl:x.kind = 0∧x.num = 0∧x.s = eB):LineF x (bs [99,97,116,99,104,32,65]):=LineF.of x _ true false false false false false (by rw [ho]; kernel_rfl) (by rw [ho]; kernel_rfl) (by kernel_rfl) ha hb hc hn ht hl
theorem lf41 {x:Ln} (ho:x.op = 41) (ha:x.a = eB) (hb:x.b = eB) (hc:x.c = eB) (hn:x.name = eB) (ht:x.args.n = 0) (hl:x.kind = 0∧x.num = 0∧x.s = eB):LineF x (bs [102,105,110,97,108,108,121]):=LineF.of x _ false false false false false false (by rw [ho]; kernel_rfl) (by rw [ho]; kernel_rfl) (by kernel_rfl) ha hb hc hn ht hl
theorem lf42 {x:Ln} (ho:x.op = 42) (ha:x.a = eB) (hb:x.b = eB) (hc:x.c = eB) (hn:x.name = eB) (ht:x.args.n = 0) (hl:x.kind = 0∧x.num = 0∧x.s = eB):LineF x (bs [101,110,100]):=LineF.of x _ false false false false false false (by rw [ho]; kernel_rfl) (by rw [ho]; kernel_rfl) (by kernel_rfl) ha hb hc hn ht hl
theorem simpS_form {x:Ln} (h:SimpS x):∃ F,LineF x F:=by
 cases h with
 | const a v ha hv=>exact ⟨_,lf1 rfl (vars5_name ha) rfl rfl rfl rfl hv⟩
 | two op a b h1 ha hb =>
  have ha:=vars5_name ha
  have hb:=vars5_name hb
  simp only [List.mem_cons,List.not_mem_nil,or_false] at h1
  rcases h1 with rfl | rfl | rfl | rfl | rfl | rfl | rfl
  ·exact ⟨_,lf2 rfl ha hb rfl rfl rfl ⟨rfl,rfl,rfl⟩⟩
  ·exact ⟨_,lf3 rfl ha hb rfl rfl rfl ⟨rfl,rfl,rfl⟩⟩
  ·exact ⟨_,lf4 rfl ha hb rfl rfl rfl ⟨rfl,rfl,rfl⟩⟩
  ·exact ⟨_,lf21 rfl ha hb rfl rfl rfl ⟨rfl,rfl,rfl⟩⟩
  ·exact ⟨_,lf18 rfl ha hb rfl rfl rfl ⟨rfl,rfl,rfl⟩⟩
  ·exact ⟨_,lf26 rfl ha hb rfl rfl rfl ⟨rfl,rfl,rfl⟩⟩
  ·exact ⟨_,lf27 rfl ha hb rfl rfl rfl ⟨rfl,rfl,rfl⟩⟩
 | three op a b c h1 ha hb hc =>
  have ha:=vars5_name ha
  have hb:=vars5_name hb
  have hc:=vars5_name hc
  have h1:op = 5∨op = 6∨op = 7∨op = 8∨op = 9∨op = 10∨op = 11∨op = 12∨op = 13∨op = 14∨op = 19∨op = 20:=by omega
  rcases h1 with rfl | rfl | rfl | rfl | rfl | rfl | rfl | rfl | rfl | rfl | rfl | rfl
  ·exact ⟨_,lf5 rfl ha hb hc rfl rfl ⟨rfl,rfl,rfl⟩⟩
  ·exact ⟨_,lf6 rfl ha hb hc rfl rfl ⟨rfl,rfl,rfl⟩⟩
  ·exact ⟨_,lf7 rfl ha hb hc rfl rfl ⟨rfl,rfl,rfl⟩⟩
  ·exact ⟨_,lf8 rfl ha hb hc rfl rfl ⟨rfl,rfl,rfl⟩⟩
  ·exact ⟨_,lf9 rfl ha hb hc rfl rfl ⟨rfl,rfl,rfl⟩⟩
  ·exact ⟨_,lf10 rfl ha hb hc rfl rfl ⟨rfl,rfl,rfl⟩⟩
  ·exact ⟨_,lf11 rfl ha hb hc rfl rfl ⟨rfl,rfl,rfl⟩⟩
  ·exact ⟨_,lf12 rfl ha hb hc rfl rfl ⟨rfl,rfl,rfl⟩⟩
  ·exact ⟨_,lf13 rfl ha hb hc rfl rfl ⟨rfl,rfl,rfl⟩⟩
  ·exact ⟨_,lf14 rfl ha hb hc rfl rfl ⟨rfl,rfl,rfl⟩⟩
  ·exact ⟨_,lf19 rfl ha hb hc rfl rfl ⟨rfl,rfl,rfl⟩⟩
  ·exact ⟨_,lf20 rfl ha hb hc rfl rfl ⟨rfl,rfl,rfl⟩⟩
 | new a n ha hn =>
  have hn:nameB n = true:=by
   simp only [List.mem_cons,List.not_mem_nil,or_false] at hn
   rcases hn with rfl | rfl <;> kernel_rfl
  exact ⟨_,lf15 rfl (vars5_name ha) rfl rfl hn rfl ⟨rfl,rfl,rfl⟩⟩
 | fld op a b n h1 ha hb hn =>
  have hn:nameB n = true:=by
   simp only [List.mem_cons,List.not_mem_nil,or_false] at hn
   rcases hn with rfl | rfl | rfl <;> kernel_rfl
  simp only [List.mem_cons,List.not_mem_nil,or_false] at h1
  rcases h1 with rfl | rfl
  ·exact ⟨_,lf16 rfl (vars5_name ha) (vars5_name hb) rfl hn rfl ⟨rfl,rfl,rfl⟩⟩
  ·exact ⟨_,lf17 rfl (vars5_name ha) (vars5_name hb) rfl hn rfl ⟨rfl,rfl,rfl⟩⟩
 | call a b c ha hb hc=>exact ⟨_,lf22 rfl (vars5_name ha) rfl rfl (by kernel_rfl) ⟨(by decide:2≤8),getD2_name (vars5_name hb) (vars5_name hc)⟩ ⟨rfl,rfl,rfl⟩⟩
 | bind a b c k ha hb hc hk=>exact ⟨_,lf23 rfl (vars5_name ha) rfl rfl (by kernel_rfl) ⟨(by show k≤8; omega),fun j hj=>getD2_name (vars5_name hb) (vars5_name hc) j (Nat.lt_of_lt_of_le hj hk)⟩ ⟨rfl,rfl,rfl⟩⟩
 | apply a b c k ha hb hc hk=>exact ⟨_,lf24 rfl (vars5_name ha) (vars5_name hb) rfl rfl ⟨(by show k≤8; omega),fun j hj=>getD2_name (vars5_name hc) (vars5_name ha) j (Nat.lt_of_lt_of_le hj hk)⟩ ⟨rfl,rfl,rfl⟩⟩
 | send a b c k ha hb hc hk=>exact ⟨_,lf25 rfl (vars5_name ha) (vars5_name hb) rfl (by kernel_rfl) ⟨(by show k≤8; omega),fun j hj=>getD1_name (vars5_name hc) j (Nat.lt_of_lt_of_le hj hk)⟩ ⟨rfl,rfl,rfl⟩⟩
 | one op a h1 ha =>
  simp only [List.mem_cons,List.not_mem_nil,or_false] at h1
  rcases h1 with rfl | rfl | rfl | rfl | rfl
  ·exact ⟨_,lf30 rfl (vars5_name ha) rfl rfl rfl rfl ⟨rfl,rfl,rfl⟩⟩
  ·exact ⟨_,lf31 rfl (vars5_name ha) rfl rfl rfl rfl ⟨rfl,rfl,rfl⟩⟩
  ·exact ⟨_,lf29 rfl (vars5_name ha) rfl rfl rfl rfl ⟨rfl,rfl,rfl⟩⟩
  ·exact ⟨_,lf35 rfl (vars5_name ha) rfl rfl rfl rfl ⟨rfl,rfl,rfl⟩⟩
  ·exact ⟨_,lf34 rfl (vars5_name ha) rfl rfl rfl rfl ⟨rfl,rfl,rfl⟩⟩
 | final a ha=>exact ⟨_,lf28 rfl (vars5_name ha) rfl rfl (by kernel_rfl) rfl ⟨rfl,rfl,rfl⟩⟩
 | yield=>exact ⟨_,lf33 rfl rfl rfl rfl rfl rfl ⟨rfl,rfl,rfl⟩⟩
 | spawn a n ha h1 h2=>exact ⟨_,lf32 rfl rfl rfl rfl (by kernel_rfl) ⟨(by decide:1≤8),getD1_name (vars5_name ha)⟩ ⟨.inr (.inr (.inl ⟨rfl,by show -2≤n; omega,by show n≤6; omega,rfl⟩)),rfl⟩⟩
inductive LineS:Ln→Prop
 | simp (x:Ln):SimpS x→LineS x
 | iff (a:ByteArray):a ∈ vars5→LineS (lIf a)
 | els:LineS lElse
 | whl (a:ByteArray):a ∈ vars5→LineS (lWhile a)
 | tr:LineS lTry
 | cat (a:ByteArray):a ∈ vars5→LineS (lCatch a)
 | fin:LineS lFin
 | en:LineS lEnd
theorem lineS_form {x:Ln} (h:LineS x):∃ F,LineF x F:=by
 cases h with
 | simp _ h=>exact simpS_form h
 | iff a ha=>exact ⟨_,lf36 rfl (vars5_name ha) rfl rfl rfl rfl ⟨rfl,rfl,rfl⟩⟩
 | els=>exact ⟨_,lf37 rfl rfl rfl rfl rfl rfl ⟨rfl,rfl,rfl⟩⟩
 | whl a ha=>exact ⟨_,lf38 rfl (vars5_name ha) rfl rfl rfl rfl ⟨rfl,rfl,rfl⟩⟩
 | tr=>exact ⟨_,lf39 rfl rfl rfl rfl rfl rfl ⟨rfl,rfl,rfl⟩⟩
 | cat a ha=>exact ⟨_,lf40 rfl (vars5_name ha) rfl rfl rfl rfl ⟨rfl,rfl,rfl⟩⟩
 | fin=>exact ⟨_,lf41 rfl rfl rfl rfl rfl rfl ⟨rfl,rfl,rfl⟩⟩
 | en=>exact ⟨_,lf42 rfl rfl rfl rfl rfl rfl ⟨rfl,rfl,rfl⟩⟩
theorem bal_lines {xs:List Ln} (h:Bal xs):∀ x ∈ xs,LineS x:=by
 induction h with
 | nil=>simp
 | simp xs x h hx ih=>simp only [List.mem_append,List.mem_singleton]; rintro y (h | rfl) <;> first | exact ih y h | exact .simp _ hx
 | iff xs ys a h ha h2 i1 i2=>simp only [List.mem_append,List.mem_singleton]; rintro y (h | rfl | h | rfl) <;> first | exact i1 y h | exact .iff a ha | exact i2 y h | exact .en
 | ife xs ys zs a h ha h2 h3 i1 i2 i3=>simp only [List.mem_append,List.mem_singleton]; rintro y (h | rfl | h | rfl | h | rfl) <;> first | exact i1 y h | exact .iff a ha | exact i2 y h | exact .els | exact i3 y h | exact .en
 | whl xs ys a h ha h2 i1 i2=>simp only [List.mem_append,List.mem_singleton]; rintro y (h | rfl | h | rfl) <;> first | exact i1 y h | exact .whl a ha | exact i2 y h | exact .en
 | tc xs ys zs a h ha h2 h3 i1 i2 i3=>simp only [List.mem_append,List.mem_singleton]; rintro y (h | rfl | h | rfl | h | rfl) <;> first | exact i1 y h | exact .tr | exact i2 y h | exact .cat a ha | exact i3 y h | exact .en
 | tf xs ys zs h h2 h3 i1 i2 i3=>simp only [List.mem_append,List.mem_singleton]; rintro y (h | rfl | h | rfl | h | rfl) <;> first | exact i1 y h | exact .tr | exact i2 y h | exact .fin | exact i3 y h | exact .en
 | tcf xs ys zs us a h ha h2 h3 h4 i1 i2 i3 i4=>simp only [List.mem_append,List.mem_singleton]; rintro y (h | rfl | h | rfl | h | rfl | h | rfl) <;> first | exact i1 y h | exact .tr | exact i2 y h | exact .cat a ha | exact i3 y h | exact .fin | exact i4 y h | exact .en
end Go.SL
namespace Go.SL
open Go.Proofs
structure SeenE (es:List (AV × AV)) (Q:ByteArray→Prop):Prop where
 closed:ltNB 0 (.mp es) = true
 keys:∀ s,keysB (.str s) es = true
 miss:∀ s,¬ Q s→lookF (.str s) (.bool false) es = .bool false
theorem SeenE.nil {Q:ByteArray→Prop}:SeenE [] Q:=⟨rfl,fun _=>rfl,fun _ _=>rfl⟩
theorem setF_closed {t:ByteArray}:∀ {es:List (AV × AV)},ltNE 0 es = true→ltNE 0 (setF (.str t) (.bool true) es) = true
 | [],_=>rfl
 | (a,u) :: r,h=>by
  simp only [ltNE,Bool.and_eq_true] at h
  simp only [setF]
  split
  ·simp only [ltNE,ltN,h.2,Bool.and_self]
  ·simp only [ltNE,h.1.1,h.1.2,setF_closed h.2,Bool.and_self]
theorem setF_keys {s t:ByteArray}:∀ {es:List (AV × AV)},keysB (.str s) es = true→keysB (.str s) (setF (.str t) (.bool true) es) = true
 | [],_=>rfl
 | (a,u) :: r,h=>by
  simp only [keysB,List.all_cons,Bool.and_eq_true] at h
  simp only [setF]
  split
  ·simp only [keysB,List.all_cons,Bool.and_eq_true]; exact ⟨rfl,h.2⟩
  ·simp only [keysB,List.all_cons,Bool.and_eq_true]; exact ⟨h.1,setF_keys (es:=r) h.2⟩
theorem setF_look {s t:ByteArray} (hs:¬ s = t):∀ {es:List (AV × AV)},keysB (.str s) es = true→lookF (.str s) (.bool false) (setF (.str t) (.bool true) es) = lookF (.str s) (.bool false) es
 | [],_=>by simp [setF,lookF,keyEq,hs]
 | (a,u) :: r,h=>by
  simp only [keysB,List.all_cons,Bool.and_eq_true] at h
  cases a with
  | str a =>
   simp only [setF,keyEq]
   by_cases e:t = a
   ·subst e; simp [lookF,keyEq,hs]
   ·simp only [e,decide_false]
    by_cases e2:s = a
    ·subst e2; simp [lookF,keyEq]
    ·simp only [lookF,keyEq,e2,decide_false]
     exact setF_look hs (es:=r) h.2
  | _=>simp [keyEq] at h
theorem SeenE.set {es:List (AV × AV)} {Q Q':ByteArray→Prop} (h:SeenE es Q) (t:ByteArray) (hq:∀ s,Q s∨s = t→Q' s):SeenE (setF (.str t) (.bool true) es) Q' :=
 ⟨setF_closed h.closed,fun s=>setF_keys (h.keys s),fun s hs=>by rw [setF_look (fun e=>hs (hq s (.inr e))) (h.keys s)]; exact h.miss s fun e=>hs (hq s (.inl e))⟩
theorem distinct_ctr (l:Arr ByteArray) (hl:l.n < 1000000) (hn:∀ j,j < l.n→nameB (l.f j) = true) (hd:∀ i j,i < j→j < l.n→¬ l.f i = l.f j):Ctr Tryd.prog 40 [strs l] [] 0 (fun r hp1 n1=>r = .ret (.bool true)∧hp1 = []∧n1 = 0):=by
 have hpc:=(pcOr_ok pe_lname_ok pc0_ok)
 refine ctr_body Tryd.func40 rfl (by kernel_rfl) Tryd.ntmps40 rfl rfl fun E hE=>?_
 refine g0 hpc 17 [] (.go [cN 58,.b 0,cN 15]) ⟨[(3,.map 0),(7,strs l),(8,nI l.n),(9,iI 0)],[(0,.mp [])],1⟩ ([]) aN ?_
 refine go_loop (fun (z_:Nat × List (AV × AV))=>match z_ with | (k,es)=>⟨[(3,.map 0),(7,strs l),(8,nI l.n),(9,nI k)],[(0,.mp es)],1⟩) (fun (z_:Nat × List (AV × AV))=>match z_ with | (k,es)=>k≤l.n∧SeenE es (fun s=>∃ j,j < k∧l.f j = s)) (fun (z_:Nat × List (AV × AV))=>match z_ with | (k,es)=>l.n - k) (0,[]) rfl (by exact ⟨by omega,.nil⟩) (cvM hE [0] toFR ⟨rM ([]) (by first | exact hR1.2.closed | exact setF_closed hR1.2.closed | rfl) rfl,toHR⟩) ?_
 rintro ⟨k,es⟩ hR10
 have hR1:k≤l.n∧SeenE es (fun s=>∃ j,j < k∧l.f j = s):=hR10
 refine g0 hpc 5 [] (.go [cN 466,cN 467]) ⟨[(3,.map 0),(7,strs l),(8,nI l.n),(9,nI k),(10,.bool (decide ((k:Int) < (l.n:Int))))],[(0,.mp es)],1⟩ ([]) aN ?_
 by_cases h2:(k:Int) < (l.n:Int)
 ·refine gb 10 true (decide ((k:Int) < (l.n:Int))) (decide_eq_true h2) ?_
  refine g0 hpc 17 [] (.op 14948 4 [cN 14949,cN 7475,.b 1,cN 935]) ⟨[(3,.map 0),(5,.str (l.f k)),(7,strs l),(8,nI l.n),(9,nI k),(16,.bool (!(nameB (l.f k))))],[(0,.mp es)],1⟩ ([.b (ixB (k:Int) l.n)]) (aD (by omega) aN) ?_
  refine gb 16 false (!(nameB (l.f k))) (by rw [hn k (by omega)]; rfl) ?_
  refine g0 hpc 18 [(19,.bool false)] (.go []) ⟨[(3,.map 0),(7,strs l),(8,nI l.n),(9,nI (k + 1))],[(0,.mp (setF (.str (l.f k)) (.bool true) es))],1⟩ ([.b (rng (((k + 1):Nat):Int)),.b (keysB (.str (l.f k)) es),.p ((lookF (.str (l.f k)) (.bool false) es) = (AV.bool false)),.b (keysB (.str (l.f k)) es)]) (aR (by omega) (by omega) (aC (by exact hR1.2.keys _) (aP (by exact (hR1.2.miss _ (fun ⟨j,hj,e⟩=>hd j k (by omega) (by omega) e))) (aC (by exact hR1.2.keys _) aN)))) ?_
  refine go_again ((k + 1),(setF (.str (l.f k)) (.bool true) es)) (by first | (dsimp only; omega) | omega) (by exact ⟨by omega,hR1.2.set _ (fun s h=>by rcases h with ⟨j,hj,e⟩ | rfl; exact ⟨j,by omega,e⟩; exact ⟨k,by omega,rfl⟩)⟩) (cvM hE [0] toFR ⟨rM (setF (.str (l.f k)) (.bool true) es) (by first | exact hR1.2.closed | exact setF_closed hR1.2.closed | rfl) rfl,toHR⟩)
 ·refine gb 10 false (decide ((k:Int) < (l.n:Int))) (decide_eq_false h2) ?_
  refine g0 hpc 1 [] (.go [cN 933,cN 467]) ⟨[],[],1⟩ ([]) aN ?_
  refine go_brk rfl rfl rfl ?_
  refine g0 hpc 4 [] (.go [cN 31]) ⟨[(2,.bool true)],[],1⟩ ([]) aN ?_
  refine go_ret rfl ?_
  refine rf ⟨[(2,.bool true)],[],0⟩ [.bool true] (cvR hE []) ?_
  exact ⟨rfl,rfl,rfl⟩
end Go.SL
namespace Go.SL
open Go.Proofs
def PgB (p:Pg):Prop:=p.classes.n < 1000∧p.funcs.n < 1000
def h_func (p:Pg) (args:List AV):Option (AV × List Cnd):=match args with | [v,.str s]=>some (.int .i64 (fnI p.funcs s),[.p (v = pgA p),.p (PgB p)]) | _=>none
theorem pe_func_ok (p:Pg):PCOK Tryd.prog (pcF 25 (h_func p)):=pcF_ok fun args v c h hc=>by
 unfold h_func at h
 split at h
 ·simp only [Option.some.injEq,Prod.mk.injEq] at h
  obtain ⟨rfl,rfl⟩:=h
  obtain ⟨e,hb,_⟩:=hc
  subst e
  exact ⟨rfl,Ctr.pure rfl (Ctr.mono (func_ctr p hb _) fun r hp1 n1 _ q=>q.1) rfl⟩
 ·simp at h
def h_class (p:Pg) (args:List AV):Option (AV × List Cnd):=match args with | [v,.str s]=>some (.int .i64 (clI p.classes s),[.p (v = pgA p),.p (PgB p)]) | _=>none
theorem pe_class_ok (p:Pg):PCOK Tryd.prog (pcF 39 (h_class p)):=pcF_ok fun args v c h hc=>by
 unfold h_class at h
 split at h
 ·simp only [Option.some.injEq,Prod.mk.injEq] at h
  obtain ⟨rfl,rfl⟩:=h
  obtain ⟨e,hb,_⟩:=hc
  subst e
  exact ⟨rfl,Ctr.pure rfl (Ctr.mono (class_ctr p hb _) fun r hp1 n1 _ q=>q.1) rfl⟩
 ·simp at h
theorem demand_ctr (a b c:Int):Ctr Tryd.prog 22 [.bool true,.int .i64 a,.int .i64 b,.int .i64 c] [] 0 (fun r _ _=>r = .ret (.tuple [])):=by
 refine ctr_body Tryd.func22 rfl (by kernel_rfl) Tryd.ntmps22 rfl rfl fun E hE=>?_
 refine g0 pcs_ok 7 [] (.go []) ⟨[],[],0⟩ ([]) aN ?_
 refine gf ⟨[],[],0⟩ [] (cvR hE []) ?_
 exact rfl
def h_demand (args:List AV):Option (AV × List Cnd):=match args with | [.bool h,.int .i64 a,.int .i64 b,.int .i64 c]=>some (.tuple [],[.b h]) | _=>none
theorem pe_demand_ok:PCOK Tryd.prog (pcF 22 h_demand):=pcF_ok fun args v c h hc=>by
 unfold h_demand at h
 split at h
 ·simp only [Option.some.injEq,Prod.mk.injEq] at h
  obtain ⟨rfl,rfl⟩:=h
  obtain ⟨e,_⟩:=hc
  subst e
  exact ⟨rfl,Ctr.pure rfl (demand_ctr _ _ _) rfl⟩
 ·simp at h
structure NamesOK (p:Pg) (x:Ln):Prop where
 new:x.op = 15→0≤clI p.classes x.name
 call:x.op = 22∨x.op = 32∨x.op = 28∨x.op = 23→0≤fnI p.funcs x.name∧(x.args.n = (p.funcs.f (fnI p.funcs x.name).toNat).params.n∨x.op = 23∧x.args.n < (p.funcs.f (fnI p.funcs x.name).toNat).params.n)
theorem fnI_lt {l:Arr Fc} {s:ByteArray} (h:0≤fnI l s):fnI l s < l.n:=by
 unfold fnI at *
 rcases idxI_cases l.n (fun j=>decide ((l.f j).name = s)) with ⟨k,h1,_,_,e⟩ | ⟨_,e⟩ <;> rw [e] at h ⊢ <;> omega
theorem names_ctr (p:Pg) (hp:PgB p) (x:Ln) (hx:NamesOK p x) (a b:Int) (m1 m2 m3:Nat):Ctr Tryd.prog 43 [.ptr 0 0,.int .i64 a,.int .i64 b,.agg (lnC x)] [(0,.row 77 (pgC p ++ [.slice 1 0 m1 1,.slice 2 0 m2 1,.slice 3 0 m3 1]))] 4 (fun r hp1 n1=>r = .ret (.tuple [])∧hp1 = [(0,.row 77 (pgC p ++ [.slice 1 0 m1 1,.slice 2 0 m2 1,.slice 3 0 m3 1]))]∧n1 = 4):=by
 have hpc:=(pcOr_ok (pe_func_ok p) (pcOr_ok (pe_class_ok p) (pcOr_ok pe_demand_ok pc0_ok)))
 refine ctr_body Tryd.func43 rfl (by kernel_rfl) Tryd.ntmps43 rfl rfl fun E hE=>?_
 refine g0 hpc 15 [] (.go [cN 29,.b 0]) ⟨[(0,.ptr 0 0),(1,iI a),(2,iI b),(7,.ptr 4 0),(12,iI x.op),(13,.bool (decide (x.op = 15)))],[(0,.row 77 [cls p.classes,fcs p.funcs,.slice 1 0 m1 1,.slice 2 0 m2 1,.slice 3 0 m3 1]),(4,.row 45 (lnC x))],5⟩ ([]) aN ?_
 by_cases h1:x.op = 15
 ·refine gb 13 true (decide (x.op = 15)) (decide_eq_true h1) ?_
  have hq:=hx.new h1
  refine g0 hpc 3 [] (.go []) ⟨[],[(0,.row 77 [cls p.classes,fcs p.funcs,.slice 1 0 m1 1,.slice 2 0 m2 1,.slice 3 0 m3 1])],5⟩ ([.b (decide ((clI p.classes x.name) ≥ 0)),.p ((pgA p) = pgA p),.p (PgB p)]) (aC (by first | exact decide_eq_true (by omega) | rfl | omega) (aP (by rfl) (aP (by assumption) aN))) ?_
  refine gf ⟨[],[(0,.row 77 [cls p.classes,fcs p.funcs,.slice 1 0 m1 1,.slice 2 0 m2 1,.slice 3 0 m3 1])],4⟩ [] (cvR hE [0,1,2,3]) ?_
  exact ⟨rfl,rfl,rfl⟩
 ·refine gb 13 false (decide (x.op = 15)) (decide_eq_false h1) ?_
  refine g0 hpc 7 [] (.go [cN 237,cN 119,.b 0]) ⟨[(0,.ptr 0 0),(1,iI a),(2,iI b),(7,.ptr 4 0),(12,iI x.op),(26,.bool (decide (x.op = 22)))],[(0,.row 77 [cls p.classes,fcs p.funcs,.slice 1 0 m1 1,.slice 2 0 m2 1,.slice 3 0 m3 1]),(4,.row 45 (lnC x))],5⟩ ([]) aN ?_
  by_cases h2:x.op = 22
  ·refine gb 26 true (decide (x.op = 22)) (decide_eq_true h2) ?_
   have hq:=hx.call (by omega); have hq3:=fnI_lt hq.1
   refine g0 hpc 20 [] (.op 1911 4 [.b 0]) ⟨[(1,iI a),(2,iI b),(7,.ptr 4 0),(9,nI (((p.funcs.f (Int.toNat (fnI p.funcs x.name))).params).n)),(10,nI x.args.n),(59,.bool (decide ((x.args.n:Int) = ((((p.funcs.f (Int.toNat (fnI p.funcs x.name))).params).n:Nat):Int))))],[(0,.row 77 [cls p.classes,fcs p.funcs,.slice 1 0 m1 1,.slice 2 0 m2 1,.slice 3 0 m3 1]),(4,.row 45 (lnC x))],5⟩ ([.b (ixB (fnI p.funcs x.name) p.funcs.n),.b (decide ((fnI p.funcs x.name) ≥ 0)),.p ((pgA p) = pgA p),.p (PgB p)]) (aD (by omega) (aC (by first | exact decide_eq_true (by omega) | rfl | omega) (aP (by rfl) (aP (by assumption) aN)))) ?_
   by_cases h3:(x.args.n:Int) = ((((p.funcs.f (Int.toNat (fnI p.funcs x.name))).params).n:Nat):Int)
   ·refine gb 59 true (decide ((x.args.n:Int) = ((((p.funcs.f (Int.toNat (fnI p.funcs x.name))).params).n:Nat):Int))) (decide_eq_true h3) ?_
    refine g0 hpc 15 [] (.go []) ⟨[],[(0,.row 77 [cls p.classes,fcs p.funcs,.slice 1 0 m1 1,.slice 2 0 m2 1,.slice 3 0 m3 1])],5⟩ ([.b true]) (aT aN) ?_
    refine gf ⟨[],[(0,.row 77 [cls p.classes,fcs p.funcs,.slice 1 0 m1 1,.slice 2 0 m2 1,.slice 3 0 m3 1])],4⟩ [] (cvR hE [0,1,2,3]) ?_
    exact ⟨rfl,rfl,rfl⟩
   ·refine gb 59 false (decide ((x.args.n:Int) = ((((p.funcs.f (Int.toNat (fnI p.funcs x.name))).params).n:Nat):Int))) (decide_eq_false h3) ?_
    refine g0 hpc 5 [] (.op 1911 8 [.b 0]) ⟨[(1,iI a),(2,iI b),(9,nI (((p.funcs.f (Int.toNat (fnI p.funcs x.name))).params).n)),(10,nI x.args.n),(59,.bool false),(63,.bool (decide (x.op = 23)))],[(0,.row 77 [cls p.classes,fcs p.funcs,.slice 1 0 m1 1,.slice 2 0 m2 1,.slice 3 0 m3 1])],5⟩ ([]) aN ?_
    by_cases h4:x.op = 23
    ·refine gb 63 true (decide (x.op = 23)) (decide_eq_true h4) ?_
     have hq:=hx.call (by omega); have hq3:=fnI_lt hq.1
     refine g0 hpc 11 [] (.go []) ⟨[],[(0,.row 77 [cls p.classes,fcs p.funcs,.slice 1 0 m1 1,.slice 2 0 m2 1,.slice 3 0 m3 1])],5⟩ ([.b (decide ((x.args.n:Int) < ((((p.funcs.f (Int.toNat (fnI p.funcs x.name))).params).n:Nat):Int)))]) (aC (by first | exact decide_eq_true (by omega) | rfl | omega) aN) ?_
     refine gf ⟨[],[(0,.row 77 [cls p.classes,fcs p.funcs,.slice 1 0 m1 1,.slice 2 0 m2 1,.slice 3 0 m3 1])],4⟩ [] (cvR hE [0,1,2,3]) ?_
     exact ⟨rfl,rfl,rfl⟩
    ·refine gb 63 false (decide (x.op = 23)) (decide_eq_false h4) ?_
     refine g0 hpc 11 [] (.go []) ⟨[],[(0,.row 77 [cls p.classes,fcs p.funcs,.slice 1 0 m1 1,.slice 2 0 m2 1,.slice 3 0 m3 1])],5⟩ ([.b false]) (aC (by first | exact decide_eq_true (by omega) | rfl | omega) aN) ?_
     refine gf ⟨[],[(0,.row 77 [cls p.classes,fcs p.funcs,.slice 1 0 m1 1,.slice 2 0 m2 1,.slice 3 0 m3 1])],4⟩ [] (cvR hE [0,1,2,3]) ?_
     exact ⟨rfl,rfl,rfl⟩
  ·refine gb 26 false (decide (x.op = 22)) (decide_eq_false h2) ?_
   refine g0 hpc 6 [] (.go [cN 951,cN 119,.b 0]) ⟨[(0,.ptr 0 0),(1,iI a),(2,iI b),(7,.ptr 4 0),(12,iI x.op),(26,.bool (decide (x.op = 32)))],[(0,.row 77 [cls p.classes,fcs p.funcs,.slice 1 0 m1 1,.slice 2 0 m2 1,.slice 3 0 m3 1]),(4,.row 45 (lnC x))],5⟩ ([]) aN ?_
   by_cases h5:x.op = 32
   ·refine gb 26 true (decide (x.op = 32)) (decide_eq_true h5) ?_
    have hq:=hx.call (by omega); have hq3:=fnI_lt hq.1
    refine g0 hpc 20 [] (.op 1911 4 [.b 0]) ⟨[(1,iI a),(2,iI b),(7,.ptr 4 0),(9,nI (((p.funcs.f (Int.toNat (fnI p.funcs x.name))).params).n)),(10,nI x.args.n),(59,.bool (decide ((x.args.n:Int) = ((((p.funcs.f (Int.toNat (fnI p.funcs x.name))).params).n:Nat):Int))))],[(0,.row 77 [cls p.classes,fcs p.funcs,.slice 1 0 m1 1,.slice 2 0 m2 1,.slice 3 0 m3 1]),(4,.row 45 (lnC x))],5⟩ ([.b (ixB (fnI p.funcs x.name) p.funcs.n),.b (decide ((fnI p.funcs x.name) ≥ 0)),.p ((pgA p) = pgA p),.p (PgB p)]) (aD (by omega) (aC (by first | exact decide_eq_true (by omega) | rfl | omega) (aP (by rfl) (aP (by assumption) aN)))) ?_
    by_cases h6:(x.args.n:Int) = ((((p.funcs.f (Int.toNat (fnI p.funcs x.name))).params).n:Nat):Int)
    ·refine gb 59 true (decide ((x.args.n:Int) = ((((p.funcs.f (Int.toNat (fnI p.funcs x.name))).params).n:Nat):Int))) (decide_eq_true h6) ?_
     refine g0 hpc 15 [] (.go []) ⟨[],[(0,.row 77 [cls p.classes,fcs p.funcs,.slice 1 0 m1 1,.slice 2 0 m2 1,.slice 3 0 m3 1])],5⟩ ([.b true]) (aT aN) ?_
     refine gf ⟨[],[(0,.row 77 [cls p.classes,fcs p.funcs,.slice 1 0 m1 1,.slice 2 0 m2 1,.slice 3 0 m3 1])],4⟩ [] (cvR hE [0,1,2,3]) ?_
     exact ⟨rfl,rfl,rfl⟩
    ·refine gb 59 false (decide ((x.args.n:Int) = ((((p.funcs.f (Int.toNat (fnI p.funcs x.name))).params).n:Nat):Int))) (decide_eq_false h6) ?_
     refine g0 hpc 5 [] (.op 1911 8 [.b 0]) ⟨[(1,iI a),(2,iI b),(9,nI (((p.funcs.f (Int.toNat (fnI p.funcs x.name))).params).n)),(10,nI x.args.n),(59,.bool false),(63,.bool (decide (x.op = 23)))],[(0,.row 77 [cls p.classes,fcs p.funcs,.slice 1 0 m1 1,.slice 2 0 m2 1,.slice 3 0 m3 1])],5⟩ ([]) aN ?_
     by_cases h7:x.op = 23
     ·refine gb 63 true (decide (x.op = 23)) (decide_eq_true h7) ?_
      have hq:=hx.call (by omega); have hq3:=fnI_lt hq.1
      refine g0 hpc 11 [] (.go []) ⟨[],[(0,.row 77 [cls p.classes,fcs p.funcs,.slice 1 0 m1 1,.slice 2 0 m2 1,.slice 3 0 m3 1])],5⟩ ([.b (decide ((x.args.n:Int) < ((((p.funcs.f (Int.toNat (fnI p.funcs x.name))).params).n:Nat):Int)))]) (aC (by first | exact decide_eq_true (by omega) | rfl | omega) aN) ?_
      refine gf ⟨[],[(0,.row 77 [cls p.classes,fcs p.funcs,.slice 1 0 m1 1,.slice 2 0 m2 1,.slice 3 0 m3 1])],4⟩ [] (cvR hE [0,1,2,3]) ?_
      exact ⟨rfl,rfl,rfl⟩
     ·refine gb 63 false (decide (x.op = 23)) (decide_eq_false h7) ?_
      refine g0 hpc 11 [] (.go []) ⟨[],[(0,.row 77 [cls p.classes,fcs p.funcs,.slice 1 0 m1 1,.slice 2 0 m2 1,.slice 3 0 m3 1])],5⟩ ([.b false]) (aC (by first | exact decide_eq_true (by omega) | rfl | omega) aN) ?_
      refine gf ⟨[],[(0,.row 77 [cls p.classes,fcs p.funcs,.slice 1 0 m1 1,.slice 2 0 m2 1,.slice 3 0 m3 1])],4⟩ [] (cvR hE [0,1,2,3]) ?_
      exact ⟨rfl,rfl,rfl⟩
   ·refine gb 26 false (decide (x.op = 32)) (decide_eq_false h5) ?_
    refine g0 hpc 6 [] (.go [cN 3807,cN 119,.b 0]) ⟨[(0,.ptr 0 0),(1,iI a),(2,iI b),(7,.ptr 4 0),(12,iI x.op),(26,.bool (decide (x.op = 28)))],[(0,.row 77 [cls p.classes,fcs p.funcs,.slice 1 0 m1 1,.slice 2 0 m2 1,.slice 3 0 m3 1]),(4,.row 45 (lnC x))],5⟩ ([]) aN ?_
    by_cases h8:x.op = 28
    ·refine gb 26 true (decide (x.op = 28)) (decide_eq_true h8) ?_
     have hq:=hx.call (by omega); have hq3:=fnI_lt hq.1
     refine g0 hpc 20 [] (.op 1911 4 [.b 0]) ⟨[(1,iI a),(2,iI b),(7,.ptr 4 0),(9,nI (((p.funcs.f (Int.toNat (fnI p.funcs x.name))).params).n)),(10,nI x.args.n),(59,.bool (decide ((x.args.n:Int) = ((((p.funcs.f (Int.toNat (fnI p.funcs x.name))).params).n:Nat):Int))))],[(0,.row 77 [cls p.classes,fcs p.funcs,.slice 1 0 m1 1,.slice 2 0 m2 1,.slice 3 0 m3 1]),(4,.row 45 (lnC x))],5⟩ ([.b (ixB (fnI p.funcs x.name) p.funcs.n),.b (decide ((fnI p.funcs x.name) ≥ 0)),.p ((pgA p) = pgA p),.p (PgB p)]) (aD (by omega) (aC (by first | exact decide_eq_true (by omega) | rfl | omega) (aP (by rfl) (aP (by assumption) aN)))) ?_
     by_cases h9:(x.args.n:Int) = ((((p.funcs.f (Int.toNat (fnI p.funcs x.name))).params).n:Nat):Int)
     ·refine gb 59 true (decide ((x.args.n:Int) = ((((p.funcs.f (Int.toNat (fnI p.funcs x.name))).params).n:Nat):Int))) (decide_eq_true h9) ?_
      refine g0 hpc 15 [] (.go []) ⟨[],[(0,.row 77 [cls p.classes,fcs p.funcs,.slice 1 0 m1 1,.slice 2 0 m2 1,.slice 3 0 m3 1])],5⟩ ([.b true]) (aT aN) ?_
      refine gf ⟨[],[(0,.row 77 [cls p.classes,fcs p.funcs,.slice 1 0 m1 1,.slice 2 0 m2 1,.slice 3 0 m3 1])],4⟩ [] (cvR hE [0,1,2,3]) ?_
      exact ⟨rfl,rfl,rfl⟩
     ·refine gb 59 false (decide ((x.args.n:Int) = ((((p.funcs.f (Int.toNat (fnI p.funcs x.name))).params).n:Nat):Int))) (decide_eq_false h9) ?_
      refine g0 hpc 5 [] (.op 1911 8 [.b 0]) ⟨[(1,iI a),(2,iI b),(9,nI (((p.funcs.f (Int.toNat (fnI p.funcs x.name))).params).n)),(10,nI x.args.n),(59,.bool false),(63,.bool (decide (x.op = 23)))],[(0,.row 77 [cls p.classes,fcs p.funcs,.slice 1 0 m1 1,.slice 2 0 m2 1,.slice 3 0 m3 1])],5⟩ ([]) aN ?_
      by_cases h10:x.op = 23
      ·refine gb 63 true (decide (x.op = 23)) (decide_eq_true h10) ?_
       have hq:=hx.call (by omega); have hq3:=fnI_lt hq.1
       refine g0 hpc 11 [] (.go []) ⟨[],[(0,.row 77 [cls p.classes,fcs p.funcs,.slice 1 0 m1 1,.slice 2 0 m2 1,.slice 3 0 m3 1])],5⟩ ([.b (decide ((x.args.n:Int) < ((((p.funcs.f (Int.toNat (fnI p.funcs x.name))).params).n:Nat):Int)))]) (aC (by first | exact decide_eq_true (by omega) | rfl | omega) aN) ?_
       refine gf ⟨[],[(0,.row 77 [cls p.classes,fcs p.funcs,.slice 1 0 m1 1,.slice 2 0 m2 1,.slice 3 0 m3 1])],4⟩ [] (cvR hE [0,1,2,3]) ?_
       exact ⟨rfl,rfl,rfl⟩
      ·refine gb 63 false (decide (x.op = 23)) (decide_eq_false h10) ?_
       refine g0 hpc 11 [] (.go []) ⟨[],[(0,.row 77 [cls p.classes,fcs p.funcs,.slice 1 0 m1 1,.slice 2 0 m2 1,.slice 3 0 m3 1])],5⟩ ([.b false]) (aC (by first | exact decide_eq_true (by omega) | rfl | omega) aN) ?_
       refine gf ⟨[],[(0,.row 77 [cls p.classes,fcs p.funcs,.slice 1 0 m1 1,.slice 2 0 m2 1,.slice 3 0 m3 1])],4⟩ [] (cvR hE [0,1,2,3]) ?_
       exact ⟨rfl,rfl,rfl⟩
    ·refine gb 26 false (decide (x.op = 28)) (decide_eq_false h8) ?_
     refine g0 hpc 5 [] (.go [cN 119,.b 0]) ⟨[(0,.ptr 0 0),(1,iI a),(2,iI b),(7,.ptr 4 0),(26,.bool (decide (x.op = 23)))],[(0,.row 77 [cls p.classes,fcs p.funcs,.slice 1 0 m1 1,.slice 2 0 m2 1,.slice 3 0 m3 1]),(4,.row 45 (lnC x))],5⟩ ([]) aN ?_
     by_cases h11:x.op = 23
     ·refine gb 26 true (decide (x.op = 23)) (decide_eq_true h11) ?_
      have hq:=hx.call (by omega); have hq3:=fnI_lt hq.1
      refine g0 hpc 18 [] (.op 1911 4 [.b 0]) ⟨[(1,iI a),(2,iI b),(7,.ptr 4 0),(9,nI (((p.funcs.f (Int.toNat (fnI p.funcs x.name))).params).n)),(10,nI x.args.n),(59,.bool (decide ((x.args.n:Int) = ((((p.funcs.f (Int.toNat (fnI p.funcs x.name))).params).n:Nat):Int))))],[(0,.row 77 [cls p.classes,fcs p.funcs,.slice 1 0 m1 1,.slice 2 0 m2 1,.slice 3 0 m3 1]),(4,.row 45 (lnC x))],5⟩ ([.b (ixB (fnI p.funcs x.name) p.funcs.n),.b (decide ((fnI p.funcs x.name) ≥ 0)),.p ((pgA p) = pgA p),.p (PgB p)]) (aD (by omega) (aC (by first | exact decide_eq_true (by omega) | rfl | omega) (aP (by rfl) (aP (by assumption) aN)))) ?_
      by_cases h12:(x.args.n:Int) = ((((p.funcs.f (Int.toNat (fnI p.funcs x.name))).params).n:Nat):Int)
      ·refine gb 59 true (decide ((x.args.n:Int) = ((((p.funcs.f (Int.toNat (fnI p.funcs x.name))).params).n:Nat):Int))) (decide_eq_true h12) ?_
       refine g0 hpc 15 [] (.go []) ⟨[],[(0,.row 77 [cls p.classes,fcs p.funcs,.slice 1 0 m1 1,.slice 2 0 m2 1,.slice 3 0 m3 1])],5⟩ ([.b true]) (aT aN) ?_
       refine gf ⟨[],[(0,.row 77 [cls p.classes,fcs p.funcs,.slice 1 0 m1 1,.slice 2 0 m2 1,.slice 3 0 m3 1])],4⟩ [] (cvR hE [0,1,2,3]) ?_
       exact ⟨rfl,rfl,rfl⟩
      ·refine gb 59 false (decide ((x.args.n:Int) = ((((p.funcs.f (Int.toNat (fnI p.funcs x.name))).params).n:Nat):Int))) (decide_eq_false h12) ?_
       refine g0 hpc 5 [] (.op 1911 8 [.b 0]) ⟨[(1,iI a),(2,iI b),(9,nI (((p.funcs.f (Int.toNat (fnI p.funcs x.name))).params).n)),(10,nI x.args.n),(59,.bool false),(63,.bool (decide (x.op = 23)))],[(0,.row 77 [cls p.classes,fcs p.funcs,.slice 1 0 m1 1,.slice 2 0 m2 1,.slice 3 0 m3 1])],5⟩ ([]) aN ?_
       by_cases h13:x.op = 23
       ·refine gb 63 true (decide (x.op = 23)) (decide_eq_true h13) ?_
        have hq:=hx.call (by omega); have hq3:=fnI_lt hq.1
        refine g0 hpc 11 [] (.go []) ⟨[],[(0,.row 77 [cls p.classes,fcs p.funcs,.slice 1 0 m1 1,.slice 2 0 m2 1,.slice 3 0 m3 1])],5⟩ ([.b (decide ((x.args.n:Int) < ((((p.funcs.f (Int.toNat (fnI p.funcs x.name))).params).n:Nat):Int)))]) (aC (by first | exact decide_eq_true (by omega) | rfl | omega) aN) ?_
        refine gf ⟨[],[(0,.row 77 [cls p.classes,fcs p.funcs,.slice 1 0 m1 1,.slice 2 0 m2 1,.slice 3 0 m3 1])],4⟩ [] (cvR hE [0,1,2,3]) ?_
        exact ⟨rfl,rfl,rfl⟩
       ·refine gb 63 false (decide (x.op = 23)) (decide_eq_false h13) ?_
        refine g0 hpc 11 [] (.go []) ⟨[],[(0,.row 77 [cls p.classes,fcs p.funcs,.slice 1 0 m1 1,.slice 2 0 m2 1,.slice 3 0 m3 1])],5⟩ ([.b false]) (aC (by first | exact decide_eq_true (by omega) | rfl | omega) aN) ?_
        refine gf ⟨[],[(0,.row 77 [cls p.classes,fcs p.funcs,.slice 1 0 m1 1,.slice 2 0 m2 1,.slice 3 0 m3 1])],4⟩ [] (cvR hE [0,1,2,3]) ?_
        exact ⟨rfl,rfl,rfl⟩
     ·refine gb 26 false (decide (x.op = 23)) (decide_eq_false h11) ?_
      refine g0 hpc 3 [] (.go []) ⟨[],[(0,.row 77 [cls p.classes,fcs p.funcs,.slice 1 0 m1 1,.slice 2 0 m2 1,.slice 3 0 m3 1])],5⟩ ([]) aN ?_
      refine gf ⟨[],[(0,.row 77 [cls p.classes,fcs p.funcs,.slice 1 0 m1 1,.slice 2 0 m2 1,.slice 3 0 m3 1])],4⟩ [] (cvR hE [0,1,2,3]) ?_
      exact ⟨rfl,rfl,rfl⟩
end Go.SL
namespace Go.SL
open Go.Proofs
theorem clone_ctr (l:Arr ByteArray) (hl:l.n < 1000000):Ctr Tryd.prog 41 [strs l] [] 0 (fun r hp1 n1=>r = .ret (.slice 0 0 (List.length (arrL l)) 1)∧hp1 = [(0,.row 9 (stL (arrL l)))]∧n1 = 1):=by
 refine ctr_body Tryd.func41 rfl (by kernel_rfl) Tryd.ntmps41 rfl rfl fun E hE=>?_
 refine g0 pcs_ok 8 [] (.op 12 1 [cN 13,cN 7]) ⟨[(0,strs l),(3,strs l)],[],0⟩ ([]) aN ?_
 refine go_isnil (n:=l.n) (d:=some 4) tab_ok (by kernel_rfl) (fun hn1=>?_) ?_
 ·skip
  refine g0 pcs_ok 7 [] (.go [cN 53,cN 7]) ⟨[(2,.nilSlice)],[],0⟩ ([]) aN ?_
  refine go_to ⟨[(2,.slice 0 0 0 1),(2,.nilSlice)],[(0,.row 9 []),],1⟩ (cv_nil 9 1 (2,none) (by kernel_rfl)) ?_
  refine go_ret rfl ?_
  refine rf ⟨[(2,.slice 0 0 (List.length (arrL l)) 1)],[(0,.row 9 (stL (arrL l)))],1⟩ [.slice 0 0 (List.length (arrL l)) 1] (cvM hE [0] ⟨sL (.slice 0 0 0 1) (Le.of_eq (by rw [arrL_len,hn1]; rfl)),toFR⟩ ⟨rS [] stL_closed (LeL_of_eq (by rw [arrL,hn1]; rfl)),toHR⟩) ?_
  exact ⟨rfl,rfl,rfl⟩
 ·skip
  refine g0 pcs_ok 11 [] (.go [cN 15]) ⟨[(2,.slice 1 0 (0 + l.n) 1)],[(1,.row 9 (((List.range l.n).map (fun i=>[AV.str (l.f i)])).flatten))],2⟩ ([.b (AV.ones (((List.range l.n).map (fun i=>[AV.str (l.f i)])).flatten)),.b (decide (0 * 1 = List.length ([]:List AV)∧(0 + l.n) * 16≤140737488355328))]) (aC (by rw [flat_stL]; exact stL_ones) (aD (by first | omega | (simp; omega)) aN)) ?_
  refine go_ret rfl ?_
  refine rf ⟨[(2,.slice 0 0 (List.length (arrL l)) 1)],[(0,.row 9 (stL (arrL l)))],1⟩ [.slice 0 0 (List.length (arrL l)) 1] (cvM hE [1] ⟨sL (.slice 1 0 (0 + l.n) 1) (Le.of_eq (by rw [arrL_len,Nat.zero_add]; rfl)),toFR⟩ ⟨rS (((List.range l.n).map (fun i=>[AV.str (l.f i)])).flatten) stL_closed (LeL_of_eq (flat_stL _ _)),toHR⟩) ?_
  exact ⟨rfl,rfl,rfl⟩
end Go.SL
