import Derived.Test.YtgbcmddacencjaaDoorFrm
set_option linter.unusedSimpArgs false
set_option linter.unusedVariables false
namespace Go.SL
open Go.Proofs
def opF (L:Arr Ln) (k:Int):Int:=if k < 0 then 0 else if k ≥ L.n then 0 else (L.f k.toNat).op
structure InfB (p:Pg) (u:Inf):Prop where
 pb:PgB p
 ln:∀ f,(p.funcs.f f).lines.n < 1000
 e:∀ f k,-1000≤(u.ends.f f).f k∧(u.ends.f f).f k≤1000
 s:∀ f,(u.slots.f f).n < 1000
def inB (p:Pg) (u:Inf) (f:Int):Bool:=decide (0≤f∧f < p.funcs.n∧f < u.ends.n∧f < u.parent.n)
def okB (p:Pg) (u:Inf) (f k:Int):Bool:=decide (0≤k∧k < (p.funcs.f (Int.toNat f)).lines.n∧(u.ends.f f.toNat).n = (p.funcs.f (Int.toNat f)).lines.n∧(u.parent.f f.toNat).n = (p.funcs.f (Int.toNat f)).lines.n)
def spB (p:Pg) (u:Inf) (f k:Int):Bool:=inB p u f && okB p u f k
def spV (p:Pg) (u:Inf) (f k:Int):AV:=.agg [lns (p.funcs.f (Int.toNat f)).lines,ints (u.ends.f f.toNat),ints (u.parent.f f.toNat),.int .i64 k]
def nextF (p:Pg) (u:Inf) (f k:Int):Int :=
 if spB p u f k = true then
  if opF (p.funcs.f (Int.toNat f)).lines k = 34∨opF (p.funcs.f (Int.toNat f)).lines k = 35 then -1
  else if opF (p.funcs.f (Int.toNat f)).lines k = 37 then (u.ends.f f.toNat).f k.toNat + 1
  else if opF (p.funcs.f (Int.toNat f)).lines k = 40 then (if opF (p.funcs.f (Int.toNat f)).lines ((u.ends.f f.toNat).f k.toNat) = 41 then (u.ends.f f.toNat).f k.toNat else (u.ends.f f.toNat).f k.toNat + 1)
  else if opF (p.funcs.f (Int.toNat f)).lines k = 42∧opF (p.funcs.f (Int.toNat f)).lines ((u.ends.f f.toNat).f k.toNat) = 38 then (u.ends.f f.toNat).f k.toNat
  else k + 1
 else -1
def skipF (p:Pg) (u:Inf) (f k:Int):Int:=if spB p u f k = true∧(opF (p.funcs.f (Int.toNat f)).lines k = 36∨opF (p.funcs.f (Int.toNat f)).lines k = 38) then (u.ends.f f.toNat).f k.toNat + 1 else -1
theorem op_ctr (L:Arr Ln) (D Q:Arr Int) (n k:Int):Ctr Tryd.prog 27 [.agg [lns L,ints D,ints Q,.int .i64 n],.int .i64 k] [] 0 (fun r _ _=>r = .ret (.int .i64 (opF L k))):=by
 refine ctr_body Tryd.func27 rfl (by kernel_rfl) Tryd.ntmps27 rfl rfl fun E hE=>?_
 refine g0 pcs_ok 11 [] (.op 12 3 [cN 13,cN 7]) ⟨[(1,iI k),(2,.ptr 0 0),(7,.bool (decide (k < 0)))],[(0,.row 83 [lns L,ints D,ints Q,iI n])],1⟩ ([]) aN ?_
 by_cases h1:k < 0
 ·refine gb 7 true (decide (k < 0)) (decide_eq_true h1) ?_
  refine g0 pcs_ok 13 [] (.go [cN 53,cN 7]) ⟨[(4,iI 0)],[],1⟩ ([]) aN ?_
  refine go_ret rfl ?_
  refine rf ⟨[(4,iI 0)],[],0⟩ [iI 0] (cvR hE []) ?_
  exact congrArg (fun x=>Ret.ret (AV.int .i64 x)) (by unfold opF; rw [if_pos (by omega)])
 ·refine gb 7 false (decide (k < 0)) (decide_eq_false h1) ?_
  refine g0 pcs_ok 8 [] (.go [cN 13,cN 7]) ⟨[(1,iI k),(2,.ptr 0 0),(13,.bool (decide (k ≥ (L.n:Int))))],[(0,.row 83 [lns L,ints D,ints Q,iI n])],1⟩ ([]) aN ?_
  by_cases h2:k ≥ (L.n:Int)
  ·refine gb 13 true (decide (k ≥ (L.n:Int))) (decide_eq_true h2) ?_
   refine g0 pcs_ok 5 [] (.go [cN 53,cN 7]) ⟨[(4,iI 0)],[],1⟩ ([]) aN ?_
   refine go_ret rfl ?_
   refine rf ⟨[(4,iI 0)],[],0⟩ [iI 0] (cvR hE []) ?_
   exact congrArg (fun x=>Ret.ret (AV.int .i64 x)) (by unfold opF; rw [if_neg (by omega),if_pos (by omega)])
  ·refine gb 13 false (decide (k ≥ (L.n:Int))) (decide_eq_false h2) ?_
   refine g0 pcs_ok 12 [] (.go [cN 15]) ⟨[(4,iI (L.f (Int.toNat k)).op)],[],1⟩ ([.b (ixB k L.n)]) (aD (by first | assumption | omega | (simp_all; done) | (simp_all; omega)) aN) ?_
   refine go_ret rfl ?_
   refine rf ⟨[(4,iI (L.f (Int.toNat k)).op)],[],0⟩ [iI (L.f (Int.toNat k)).op] (cvR hE []) ?_
   exact congrArg (fun x=>Ret.ret (AV.int .i64 x)) (by unfold opF; rw [if_neg (by omega),if_neg (by omega)])
def h_op (L:Arr Ln) (E Q:Arr Int) (args:List AV):Option (AV × List Cnd):=match args with | [v,.int .i64 k]=>some (.int .i64 (opF L k),[.p (∃ n,v = .agg [lns L,ints E,ints Q,.int .i64 n])]) | _=>none
theorem pe_op_ok (L:Arr Ln) (E Q:Arr Int):PCOK Tryd.prog (pcF 27 (h_op L E Q)):=pcF_ok fun args v c h hc=>by
 unfold h_op at h
 split at h
 ·simp only [Option.some.injEq,Prod.mk.injEq] at h
  obtain ⟨rfl,rfl⟩:=h
  obtain ⟨⟨n,rfl⟩,_⟩:=hc
  exact ⟨rfl,Ctr.pure rfl (op_ctr L E Q n _) rfl⟩
 ·simp at h
theorem spotted_ctr (p:Pg) (u:Inf) (f k:Int):Ctr Tryd.prog 26 [pgA p,infA u,.agg [.int .i64 f,.int .i64 k]] [] 0 (fun r hp1 n1=>(inB p u f = false∧r = .ret (.tuple [.agg [.nilSlice,.nilSlice,.nilSlice,iI 0],.bool false])∧hp1 = []∧n1 = 1)∨(inB p u f = true∧r = .ret (.tuple [spV p u f k,.bool (okB p u f k)])∧hp1 = []∧n1 = 1)):=by
 refine ctr_body Tryd.func26 rfl (by kernel_rfl) Tryd.ntmps26 rfl rfl fun E hE=>?_
 refine g0 pcs_ok 15 [] (.op 12 4 [cN 13,cN 7]) ⟨[(3,.ptr 0 0),(4,.ptr 1 0),(5,.ptr 2 0),(6,.ptr 3 0),(13,.bool (decide (f < 0)))],[(0,.row 27 (pgC p)),(1,.row 32 (infC u)),(2,.row 34 [iI f,iI k]),(3,.row 83 [.nilSlice,.nilSlice,.nilSlice,iI 0])],4⟩ ([]) aN ?_
 by_cases h1:f < 0
 ·refine gb 13 true (decide (f < 0)) (decide_eq_true h1) ?_
  refine g0 pcs_ok 23 [] (.go [cN 53,cN 7]) ⟨[(6,.ptr 3 0),(7,.bool false)],[(3,.row 83 [.nilSlice,.nilSlice,.nilSlice,iI 0])],4⟩ ([.b true]) (aT aN) ?_
  refine go_ret rfl ?_
  refine rfC ⟨[(6,.ptr 0 0),(7,.bool false)],[(0,.row 83 [.nilSlice,.nilSlice,.nilSlice,iI 0])],1⟩ [] [.agg [.nilSlice,.nilSlice,.nilSlice,iI 0],.bool false] (cvR hE [3]) ?_
  exact .inl ⟨decide_eq_false (by omega),rfl,rfl,rfl⟩
 ·refine gb 13 false (decide (f < 0)) (decide_eq_false h1) ?_
  refine g0 pcs_ok 16 [] (.go [cN 13,cN 7]) ⟨[(3,.ptr 0 0),(4,.ptr 1 0),(5,.ptr 2 0),(6,.ptr 3 0),(27,.bool (decide (f ≥ (if (u.parent.n:Int) < (if (u.ends.n:Int) < (p.funcs.n:Int) then (u.ends.n:Int) else (p.funcs.n:Int)) then (u.parent.n:Int) else (if (u.ends.n:Int) < (p.funcs.n:Int) then (u.ends.n:Int) else (p.funcs.n:Int))))))],[(0,.row 27 (pgC p)),(1,.row 32 (infC u)),(2,.row 34 [iI f,iI k]),(3,.row 83 [.nilSlice,.nilSlice,.nilSlice,iI 0])],4⟩ ([]) aN ?_
  by_cases h2:f ≥ (if (u.parent.n:Int) < (if (u.ends.n:Int) < (p.funcs.n:Int) then (u.ends.n:Int) else (p.funcs.n:Int)) then (u.parent.n:Int) else (if (u.ends.n:Int) < (p.funcs.n:Int) then (u.ends.n:Int) else (p.funcs.n:Int)))
  ·refine gb 27 true (decide (f ≥ (if (u.parent.n:Int) < (if (u.ends.n:Int) < (p.funcs.n:Int) then (u.ends.n:Int) else (p.funcs.n:Int)) then (u.parent.n:Int) else (if (u.ends.n:Int) < (p.funcs.n:Int) then (u.ends.n:Int) else (p.funcs.n:Int))))) (decide_eq_true h2) ?_
   refine g0 pcs_ok 7 [] (.go [cN 53,cN 7]) ⟨[(6,.ptr 3 0),(7,.bool false)],[(3,.row 83 [.nilSlice,.nilSlice,.nilSlice,iI 0])],4⟩ ([.b true]) (aT aN) ?_
   refine go_ret rfl ?_
   refine rfC ⟨[(6,.ptr 0 0),(7,.bool false)],[(0,.row 83 [.nilSlice,.nilSlice,.nilSlice,iI 0])],1⟩ [] [.agg [.nilSlice,.nilSlice,.nilSlice,iI 0],.bool false] (cvR hE [3]) ?_
   exact .inl ⟨decide_eq_false (by omega),rfl,rfl,rfl⟩
  ·refine gb 27 false (decide (f ≥ (if (u.parent.n:Int) < (if (u.ends.n:Int) < (p.funcs.n:Int) then (u.ends.n:Int) else (p.funcs.n:Int)) then (u.parent.n:Int) else (if (u.ends.n:Int) < (p.funcs.n:Int) then (u.ends.n:Int) else (p.funcs.n:Int))))) (decide_eq_false h2) ?_
   by_cases h3:k ≥ 0
   ·by_cases h4:k < ((p.funcs.f (Int.toNat f)).lines.n:Int)
    ·by_cases h5:((u.ends.f (Int.toNat f)).n:Int) = ((p.funcs.f (Int.toNat f)).lines.n:Int)
     ·refine g0 pcs_ok 13 [(58,.bool true),(64,.bool true),(71,.bool true)] (.go [cN 63]) ⟨[(6,.ptr 3 0),(7,.bool (decide (((u.parent.f (Int.toNat f)).n:Int) = ((p.funcs.f (Int.toNat f)).lines.n:Int))))],[(3,.row 83 [lns ((p.funcs.f (Int.toNat f)).lines),ints (u.ends.f (Int.toNat f)),ints (u.parent.f (Int.toNat f)),iI k])],5⟩ ([.b true,.p ((AV.bool (decide (((u.ends.f (Int.toNat f)).n:Int) = ((p.funcs.f (Int.toNat f)).lines.n:Int)))) = (AV.bool true)),.p ((AV.bool (decide (k < ((p.funcs.f (Int.toNat f)).lines.n:Int)))) = (AV.bool true)),.p ((AV.bool (decide (k ≥ 0))) = (AV.bool true)),.b true,.b (ixB f u.parent.n),.b (ixB f u.ends.n),.b (ixB f p.funcs.n)]) (aT (aP (by exact congrArg AV.bool (decide_eq_true h5)) (aP (by exact congrArg AV.bool (decide_eq_true h4)) (aP (by exact congrArg AV.bool (decide_eq_true h3)) (aT (aD (by first | assumption | omega | (simp_all; done) | (simp_all; omega)) (aD (by first | assumption | omega | (simp_all; done) | (simp_all; omega)) (aD (by first | assumption | omega | (simp_all; done) | (simp_all; omega)) aN)))))))) ?_
      refine go_ret rfl ?_
      refine rfC ⟨[(6,.ptr 0 0),(7,.bool (decide (((u.parent.f (Int.toNat f)).n:Int) = ((p.funcs.f (Int.toNat f)).lines.n:Int))))],[(0,.row 83 [lns ((p.funcs.f (Int.toNat f)).lines),ints (u.ends.f (Int.toNat f)),ints (u.parent.f (Int.toNat f)),iI k])],1⟩ [] [.agg [lns ((p.funcs.f (Int.toNat f)).lines),ints (u.ends.f (Int.toNat f)),ints (u.parent.f (Int.toNat f)),iI k],.bool (decide (((u.parent.f (Int.toNat f)).n:Int) = ((p.funcs.f (Int.toNat f)).lines.n:Int)))] (cvR hE [3]) ?_
      exact .inr ⟨decide_eq_true (by omega),congrArg (fun b=>Ret.ret (.tuple [_,.bool b])) (decide_eq_decide.2 (by omega)),rfl,rfl⟩
     ·refine g0 pcs_ok 13 [(58,.bool true),(64,.bool true),(71,.bool false)] (.go [cN 63]) ⟨[(6,.ptr 3 0),(7,.bool false)],[(3,.row 83 [lns ((p.funcs.f (Int.toNat f)).lines),ints (u.ends.f (Int.toNat f)),ints (u.parent.f (Int.toNat f)),iI k])],5⟩ ([.b true,.p ((AV.bool (decide (((u.ends.f (Int.toNat f)).n:Int) = ((p.funcs.f (Int.toNat f)).lines.n:Int)))) = (AV.bool false)),.p ((AV.bool (decide (k < ((p.funcs.f (Int.toNat f)).lines.n:Int)))) = (AV.bool true)),.p ((AV.bool (decide (k ≥ 0))) = (AV.bool true)),.b true,.b (ixB f u.parent.n),.b (ixB f u.ends.n),.b (ixB f p.funcs.n)]) (aT (aP (by exact congrArg AV.bool (decide_eq_false h5)) (aP (by exact congrArg AV.bool (decide_eq_true h4)) (aP (by exact congrArg AV.bool (decide_eq_true h3)) (aT (aD (by first | assumption | omega | (simp_all; done) | (simp_all; omega)) (aD (by first | assumption | omega | (simp_all; done) | (simp_all; omega)) (aD (by first | assumption | omega | (simp_all; done) | (simp_all; omega)) aN)))))))) ?_
      refine go_ret rfl ?_
      refine rfC ⟨[(6,.ptr 0 0),(7,.bool false)],[(0,.row 83 [lns ((p.funcs.f (Int.toNat f)).lines),ints (u.ends.f (Int.toNat f)),ints (u.parent.f (Int.toNat f)),iI k])],1⟩ [] [.agg [lns ((p.funcs.f (Int.toNat f)).lines),ints (u.ends.f (Int.toNat f)),ints (u.parent.f (Int.toNat f)),iI k],.bool false] (cvR hE [3]) ?_
      exact .inr ⟨decide_eq_true (by omega),congrArg (fun b=>Ret.ret (.tuple [_,.bool b])) (decide_eq_false (by omega)).symm,rfl,rfl⟩
    ·refine g0 pcs_ok 13 [(58,.bool true),(64,.bool false)] (.go [cN 63]) ⟨[(6,.ptr 3 0),(7,.bool false)],[(3,.row 83 [lns ((p.funcs.f (Int.toNat f)).lines),ints (u.ends.f (Int.toNat f)),ints (u.parent.f (Int.toNat f)),iI k])],5⟩ ([.b true,.p ((AV.bool (decide (k < ((p.funcs.f (Int.toNat f)).lines.n:Int)))) = (AV.bool false)),.p ((AV.bool (decide (k ≥ 0))) = (AV.bool true)),.b true,.b (ixB f u.parent.n),.b (ixB f u.ends.n),.b (ixB f p.funcs.n)]) (aT (aP (by exact congrArg AV.bool (decide_eq_false h4)) (aP (by exact congrArg AV.bool (decide_eq_true h3)) (aT (aD (by first | assumption | omega | (simp_all; done) | (simp_all; omega)) (aD (by first | assumption | omega | (simp_all; done) | (simp_all; omega)) (aD (by first | assumption | omega | (simp_all; done) | (simp_all; omega)) aN))))))) ?_
     refine go_ret rfl ?_
     refine rfC ⟨[(6,.ptr 0 0),(7,.bool false)],[(0,.row 83 [lns ((p.funcs.f (Int.toNat f)).lines),ints (u.ends.f (Int.toNat f)),ints (u.parent.f (Int.toNat f)),iI k])],1⟩ [] [.agg [lns ((p.funcs.f (Int.toNat f)).lines),ints (u.ends.f (Int.toNat f)),ints (u.parent.f (Int.toNat f)),iI k],.bool false] (cvR hE [3]) ?_
     exact .inr ⟨decide_eq_true (by omega),congrArg (fun b=>Ret.ret (.tuple [_,.bool b])) (decide_eq_false (by omega)).symm,rfl,rfl⟩
   ·refine g0 pcs_ok 13 [(58,.bool false)] (.go [cN 63]) ⟨[(6,.ptr 3 0),(7,.bool false)],[(3,.row 83 [lns ((p.funcs.f (Int.toNat f)).lines),ints (u.ends.f (Int.toNat f)),ints (u.parent.f (Int.toNat f)),iI k])],5⟩ ([.b true,.p ((AV.bool (decide (k ≥ 0))) = (AV.bool false)),.b true,.b (ixB f u.parent.n),.b (ixB f u.ends.n),.b (ixB f p.funcs.n)]) (aT (aP (by exact congrArg AV.bool (decide_eq_false h3)) (aT (aD (by first | assumption | omega | (simp_all; done) | (simp_all; omega)) (aD (by first | assumption | omega | (simp_all; done) | (simp_all; omega)) (aD (by first | assumption | omega | (simp_all; done) | (simp_all; omega)) aN)))))) ?_
    refine go_ret rfl ?_
    refine rfC ⟨[(6,.ptr 0 0),(7,.bool false)],[(0,.row 83 [lns ((p.funcs.f (Int.toNat f)).lines),ints (u.ends.f (Int.toNat f)),ints (u.parent.f (Int.toNat f)),iI k])],1⟩ [] [.agg [lns ((p.funcs.f (Int.toNat f)).lines),ints (u.ends.f (Int.toNat f)),ints (u.parent.f (Int.toNat f)),iI k],.bool false] (cvR hE [3]) ?_
    exact .inr ⟨decide_eq_true (by omega),congrArg (fun b=>Ret.ret (.tuple [_,.bool b])) (decide_eq_false (by omega)).symm,rfl,rfl⟩
theorem cnext_ctr (p:Pg) (u:Inf) (hI:InfB p u) (f k:Int):Ctr Tryd.prog 10 [pgA p,infA u,.agg [.int .i64 f,.int .i64 k]] [] 0 (fun r hp1 n1=>r = .ret (.int .i64 (nextF p u f k))):=by
 have hIe:=hI.e (Int.toNat f) (Int.toNat k)
 have hIl:=hI.ln (Int.toNat f)
 have hpc:=(pcOr_ok (pe_op_ok ((p.funcs.f (Int.toNat f)).lines) (u.ends.f (Int.toNat f)) (u.parent.f (Int.toNat f))) pc0_ok)
 refine ctr_body Tryd.func10 rfl (by kernel_rfl) Tryd.ntmps10 rfl rfl fun E hE=>?_
 refine g0 hpc 12 [] (.op 6 3 [cN 7]) ⟨[(11,pgA p),(12,.agg (infC u)),(13,.agg [iI f,iI k])],[],3⟩ ([]) aN ?_
 refine gc (d:=some 14) [] (spotted_ctr p u f k) ?_
 rintro _ _ _ _ (⟨hin,⟨⟩,rfl,rfl⟩ | ⟨hin,⟨⟩,rfl,rfl⟩)
 ·skip
  refine g0 hpc 19 [] (.go [cN 117,cN 15]) ⟨[(6,iI (-1))],[],5⟩ ([.b true]) (aT aN) ?_
  refine go_ret rfl ?_
  refine rf ⟨[(6,iI (-1))],[],0⟩ [iI (-1)] (cvR hE []) ?_
  refine congrArg (fun x=>Ret.ret (AV.int .i64 x)) ?_
  first | (have hsp:spB p u f k = false:=by rw [spB,hin,Bool.false_and]); simp [nextF,hsp]; done | simp [nextF, *]; done
 ·skip
  refine g0 hpc 14 [] (.go [cN 29,cN 15]) ⟨[(7,.ptr 4 0),(18,.bool (!(okB p u f k)))],[(4,.row 83 [lns ((p.funcs.f (Int.toNat f)).lines),ints (u.ends.f (Int.toNat f)),ints (u.parent.f (Int.toNat f)),iI k])],5⟩ ([.b true]) (aT aN) ?_
  rcases Bool.eq_false_or_eq_true (!(okB p u f k)) with h1 | h1
  ·refine gb 18 true (!(okB p u f k)) (h1) ?_
   have hsp:spB p u f k = false:=by rw [spB,show okB p u f k = false by simpa using h1,Bool.and_false]
   refine g0 hpc 5 [] (.go [cN 117,cN 15]) ⟨[(6,iI (-1))],[],5⟩ ([]) aN ?_
   refine go_ret rfl ?_
   refine rf ⟨[(6,iI (-1))],[],0⟩ [iI (-1)] (cvR hE []) ?_
   refine congrArg (fun x=>Ret.ret (AV.int .i64 x)) ?_
   first | (have hsp:spB p u f k = false:=by rw [spB,hin,Bool.false_and]); simp [nextF,hsp]; done | simp [nextF, *]; done
  ·refine gb 18 false (!(okB p u f k)) (h1) ?_
   have h0k:okB p u f k = true:=(by simpa using h1); have hsp:spB p u f k = true:=(by rw [spB,hin,h0k]; rfl); have hok:=of_decide_eq_true h0k
   refine g0 hpc 27 [] (.go [cN 1001,cN 501,.b 0,cN 63]) ⟨[(7,.ptr 4 0),(9,iI ((u.ends.f (Int.toNat f)).f (Int.toNat k))),(28,iI (opF ((p.funcs.f (Int.toNat f)).lines) k)),(29,.bool (decide ((opF ((p.funcs.f (Int.toNat f)).lines) k) = 34)))],[(4,.row 83 [lns ((p.funcs.f (Int.toNat f)).lines),ints (u.ends.f (Int.toNat f)),ints (u.parent.f (Int.toNat f)),iI k])],5⟩ ([.p (∃ n,(AV.agg [lns ((p.funcs.f (Int.toNat f)).lines),ints (u.ends.f (Int.toNat f)),ints (u.parent.f (Int.toNat f)),iI k]) = .agg [lns ((p.funcs.f (Int.toNat f)).lines),ints (u.ends.f (Int.toNat f)),ints (u.parent.f (Int.toNat f)),.int .i64 n]),.b (ixB k ((u.ends.f (Int.toNat f)).n))]) (aP (by exact ⟨_,rfl⟩) (aD (by first | assumption | omega | (simp_all; done) | (simp_all; omega)) aN)) ?_
   by_cases h2:(opF ((p.funcs.f (Int.toNat f)).lines) k) = 34
   ·refine gb 29 true (decide ((opF ((p.funcs.f (Int.toNat f)).lines) k) = 34)) (decide_eq_true h2) ?_
    refine g0 hpc 7 [] (.go [cN 2005,.b 0,cN 63]) ⟨[(6,iI (-1))],[],5⟩ ([]) aN ?_
    refine go_ret rfl ?_
    refine rf ⟨[(6,iI (-1))],[],0⟩ [iI (-1)] (cvR hE []) ?_
    refine congrArg (fun x=>Ret.ret (AV.int .i64 x)) ?_
    first | (have hsp:spB p u f k = false:=by rw [spB,hin,Bool.false_and]); simp [nextF,hsp]; done | simp [nextF, *]; done
   ·refine gb 29 false (decide ((opF ((p.funcs.f (Int.toNat f)).lines) k) = 34)) (decide_eq_false h2) ?_
    refine g0 hpc 5 [] (.go [cN 501,.b 0,cN 63]) ⟨[(7,.ptr 4 0),(9,iI ((u.ends.f (Int.toNat f)).f (Int.toNat k))),(28,iI (opF ((p.funcs.f (Int.toNat f)).lines) k)),(29,.bool (decide ((opF ((p.funcs.f (Int.toNat f)).lines) k) = 35)))],[(4,.row 83 [lns ((p.funcs.f (Int.toNat f)).lines),ints (u.ends.f (Int.toNat f)),ints (u.parent.f (Int.toNat f)),iI k])],5⟩ ([]) aN ?_
    by_cases h3:(opF ((p.funcs.f (Int.toNat f)).lines) k) = 35
    ·refine gb 29 true (decide ((opF ((p.funcs.f (Int.toNat f)).lines) k) = 35)) (decide_eq_true h3) ?_
     refine g0 hpc 5 [] (.go [cN 2005,.b 0,cN 63]) ⟨[(6,iI (-1))],[],5⟩ ([]) aN ?_
     refine go_ret rfl ?_
     refine rf ⟨[(6,iI (-1))],[],0⟩ [iI (-1)] (cvR hE []) ?_
     refine congrArg (fun x=>Ret.ret (AV.int .i64 x)) ?_
     first | (have hsp:spB p u f k = false:=by rw [spB,hin,Bool.false_and]); simp [nextF,hsp]; done | simp [nextF, *]; done
    ·refine gb 29 false (decide ((opF ((p.funcs.f (Int.toNat f)).lines) k) = 35)) (decide_eq_false h3) ?_
     refine g0 hpc 6 [] (.go [cN 2007,.b 0,cN 63]) ⟨[(7,.ptr 4 0),(9,iI ((u.ends.f (Int.toNat f)).f (Int.toNat k))),(28,iI (opF ((p.funcs.f (Int.toNat f)).lines) k)),(32,.bool (decide ((opF ((p.funcs.f (Int.toNat f)).lines) k) = 37)))],[(4,.row 83 [lns ((p.funcs.f (Int.toNat f)).lines),ints (u.ends.f (Int.toNat f)),ints (u.parent.f (Int.toNat f)),iI k])],5⟩ ([]) aN ?_
     by_cases h4:(opF ((p.funcs.f (Int.toNat f)).lines) k) = 37
     ·refine gb 32 true (decide ((opF ((p.funcs.f (Int.toNat f)).lines) k) = 37)) (decide_eq_true h4) ?_
      refine g0 hpc 7 [] (.go [cN 8029,.b 0,cN 63]) ⟨[(6,iI (((u.ends.f (Int.toNat f)).f (Int.toNat k)) + 1))],[],5⟩ ([.b (rng (((u.ends.f (Int.toNat f)).f (Int.toNat k)) + 1))]) (aR (by omega) (by omega) aN) ?_
      refine go_ret rfl ?_
      refine rf ⟨[(6,iI (((u.ends.f (Int.toNat f)).f (Int.toNat k)) + 1))],[],0⟩ [iI (((u.ends.f (Int.toNat f)).f (Int.toNat k)) + 1)] (cvR hE []) ?_
      refine congrArg (fun x=>Ret.ret (AV.int .i64 x)) ?_
      first | (have hsp:spB p u f k = false:=by rw [spB,hin,Bool.false_and]); simp [nextF,hsp]; done | simp [nextF, *]; done
     ·refine gb 32 false (decide ((opF ((p.funcs.f (Int.toNat f)).lines) k) = 37)) (decide_eq_false h4) ?_
      refine g0 hpc 6 [] (.go [cN 8031,.b 0,cN 63]) ⟨[(7,.ptr 4 0),(9,iI ((u.ends.f (Int.toNat f)).f (Int.toNat k))),(28,iI (opF ((p.funcs.f (Int.toNat f)).lines) k)),(36,.bool (decide ((opF ((p.funcs.f (Int.toNat f)).lines) k) = 40)))],[(4,.row 83 [lns ((p.funcs.f (Int.toNat f)).lines),ints (u.ends.f (Int.toNat f)),ints (u.parent.f (Int.toNat f)),iI k])],5⟩ ([]) aN ?_
      by_cases h5:(opF ((p.funcs.f (Int.toNat f)).lines) k) = 40
      ·refine gb 36 true (decide ((opF ((p.funcs.f (Int.toNat f)).lines) k) = 40)) (decide_eq_true h5) ?_
       refine g0 hpc 9 [] (.go [cN 64249,cN 32125,.b 0,cN 63]) ⟨[(9,iI ((u.ends.f (Int.toNat f)).f (Int.toNat k))),(41,.bool (!decide ((opF ((p.funcs.f (Int.toNat f)).lines) ((u.ends.f (Int.toNat f)).f (Int.toNat k))) = 41)))],[],5⟩ ([.p (∃ n,(AV.agg [lns ((p.funcs.f (Int.toNat f)).lines),ints (u.ends.f (Int.toNat f)),ints (u.parent.f (Int.toNat f)),iI k]) = .agg [lns ((p.funcs.f (Int.toNat f)).lines),ints (u.ends.f (Int.toNat f)),ints (u.parent.f (Int.toNat f)),.int .i64 n])]) (aP (by exact ⟨_,rfl⟩) aN) ?_
       by_cases h6:(opF ((p.funcs.f (Int.toNat f)).lines) ((u.ends.f (Int.toNat f)).f (Int.toNat k))) = 41
       ·refine gb 41 false (!decide ((opF ((p.funcs.f (Int.toNat f)).lines) ((u.ends.f (Int.toNat f)).f (Int.toNat k))) = 41)) (ndecF h6) ?_
        refine g0 hpc 7 [] (.go [cN 64251,.b 0,cN 63]) ⟨[(6,iI ((u.ends.f (Int.toNat f)).f (Int.toNat k)))],[],5⟩ ([]) aN ?_
        refine go_ret rfl ?_
        refine rf ⟨[(6,iI ((u.ends.f (Int.toNat f)).f (Int.toNat k)))],[],0⟩ [iI ((u.ends.f (Int.toNat f)).f (Int.toNat k))] (cvR hE []) ?_
        refine congrArg (fun x=>Ret.ret (AV.int .i64 x)) ?_
        first | (have hsp:spB p u f k = false:=by rw [spB,hin,Bool.false_and]); simp [nextF,hsp]; done | simp [nextF, *]; done
       ·refine gb 41 true (!decide ((opF ((p.funcs.f (Int.toNat f)).lines) ((u.ends.f (Int.toNat f)).f (Int.toNat k))) = 41)) (ndec h6) ?_
        refine g0 hpc 11 [] (.go [cN 64251,.b 0,cN 63]) ⟨[(6,iI (((u.ends.f (Int.toNat f)).f (Int.toNat k)) + 1))],[],5⟩ ([.b (rng (((u.ends.f (Int.toNat f)).f (Int.toNat k)) + 1))]) (aR (by omega) (by omega) aN) ?_
        refine go_ret rfl ?_
        refine rf ⟨[(6,iI (((u.ends.f (Int.toNat f)).f (Int.toNat k)) + 1))],[],0⟩ [iI (((u.ends.f (Int.toNat f)).f (Int.toNat k)) + 1)] (cvR hE []) ?_
        refine congrArg (fun x=>Ret.ret (AV.int .i64 x)) ?_
        first | (have hsp:spB p u f k = false:=by rw [spB,hin,Bool.false_and]); simp [nextF,hsp]; done | simp [nextF, *]; done
      ·refine gb 36 false (decide ((opF ((p.funcs.f (Int.toNat f)).lines) k) = 40)) (decide_eq_false h5) ?_
       refine g0 hpc 6 [] (.go [cN 32127,.b 0,cN 63]) ⟨[(7,.ptr 4 0),(9,iI ((u.ends.f (Int.toNat f)).f (Int.toNat k))),(45,.bool (decide ((opF ((p.funcs.f (Int.toNat f)).lines) k) = 42)))],[(4,.row 83 [lns ((p.funcs.f (Int.toNat f)).lines),ints (u.ends.f (Int.toNat f)),ints (u.parent.f (Int.toNat f)),iI k])],5⟩ ([]) aN ?_
       by_cases h7:(opF ((p.funcs.f (Int.toNat f)).lines) k) = 42
       ·refine gb 45 true (decide ((opF ((p.funcs.f (Int.toNat f)).lines) k) = 42)) (decide_eq_true h7) ?_
        refine g0 hpc 8 [] (.go [cN 128509,.b 0,cN 63]) ⟨[(7,.ptr 4 0),(9,iI ((u.ends.f (Int.toNat f)).f (Int.toNat k))),(50,.bool (decide ((opF ((p.funcs.f (Int.toNat f)).lines) ((u.ends.f (Int.toNat f)).f (Int.toNat k))) = 38)))],[(4,.row 83 [lns ((p.funcs.f (Int.toNat f)).lines),ints (u.ends.f (Int.toNat f)),ints (u.parent.f (Int.toNat f)),iI k])],5⟩ ([.p (∃ n,(AV.agg [lns ((p.funcs.f (Int.toNat f)).lines),ints (u.ends.f (Int.toNat f)),ints (u.parent.f (Int.toNat f)),iI k]) = .agg [lns ((p.funcs.f (Int.toNat f)).lines),ints (u.ends.f (Int.toNat f)),ints (u.parent.f (Int.toNat f)),.int .i64 n])]) (aP (by exact ⟨_,rfl⟩) aN) ?_
        by_cases h8:(opF ((p.funcs.f (Int.toNat f)).lines) ((u.ends.f (Int.toNat f)).f (Int.toNat k))) = 38
        ·refine gb 50 true (decide ((opF ((p.funcs.f (Int.toNat f)).lines) ((u.ends.f (Int.toNat f)).f (Int.toNat k))) = 38)) (decide_eq_true h8) ?_
         refine g0 hpc 6 [] (.go [cN 514037,.b 0,cN 63]) ⟨[(6,iI ((u.ends.f (Int.toNat f)).f (Int.toNat k)))],[],5⟩ ([]) aN ?_
         refine go_ret rfl ?_
         refine rf ⟨[(6,iI ((u.ends.f (Int.toNat f)).f (Int.toNat k)))],[],0⟩ [iI ((u.ends.f (Int.toNat f)).f (Int.toNat k))] (cvR hE []) ?_
         refine congrArg (fun x=>Ret.ret (AV.int .i64 x)) ?_
         first | (have hsp:spB p u f k = false:=by rw [spB,hin,Bool.false_and]); simp [nextF,hsp]; done | simp [nextF, *]; done
        ·refine gb 50 false (decide ((opF ((p.funcs.f (Int.toNat f)).lines) ((u.ends.f (Int.toNat f)).f (Int.toNat k))) = 38)) (decide_eq_false h8) ?_
         refine g0 hpc 10 [] (.go [cN 127]) ⟨[(6,iI (k + 1))],[],5⟩ ([.b (rng (k + 1))]) (aR (by omega) (by omega) aN) ?_
         refine go_ret rfl ?_
         refine rf ⟨[(6,iI (k + 1))],[],0⟩ [iI (k + 1)] (cvR hE []) ?_
         refine congrArg (fun x=>Ret.ret (AV.int .i64 x)) ?_
         first | (have hsp:spB p u f k = false:=by rw [spB,hin,Bool.false_and]); simp [nextF,hsp]; done | simp [nextF, *]; done
       ·refine gb 45 false (decide ((opF ((p.funcs.f (Int.toNat f)).lines) k) = 42)) (decide_eq_false h7) ?_
        refine g0 hpc 10 [] (.go [cN 127]) ⟨[(6,iI (k + 1))],[],5⟩ ([.b (rng (k + 1))]) (aR (by omega) (by omega) aN) ?_
        refine go_ret rfl ?_
        refine rf ⟨[(6,iI (k + 1))],[],0⟩ [iI (k + 1)] (cvR hE []) ?_
        refine congrArg (fun x=>Ret.ret (AV.int .i64 x)) ?_
        first | (have hsp:spB p u f k = false:=by rw [spB,hin,Bool.false_and]); simp [nextF,hsp]; done | simp [nextF, *]; done
def h_cnext (p:Pg) (u:Inf) (args:List AV):Option (AV × List Cnd):=match args with | [v,w,.agg [.int .i64 f,.int .i64 k]]=>some (.int .i64 (nextF p u f k),[.p (v = pgA p),.p (w = infA u),.p (InfB p u)]) | _=>none
theorem pe_cnext_ok (p:Pg) (u:Inf):PCOK Tryd.prog (pcF 10 (h_cnext p u)):=pcF_ok fun args v c h hc=>by
 unfold h_cnext at h
 split at h
 ·simp only [Option.some.injEq,Prod.mk.injEq] at h
  obtain ⟨rfl,rfl⟩:=h
  obtain ⟨rfl,rfl,hb,_⟩:=hc
  exact ⟨rfl,Ctr.pure rfl (cnext_ctr p u hb _ _) rfl⟩
 ·simp at h
theorem cskip_ctr (p:Pg) (u:Inf) (hI:InfB p u) (f k:Int):Ctr Tryd.prog 11 [pgA p,infA u,.agg [.int .i64 f,.int .i64 k]] [] 0 (fun r hp1 n1=>r = .ret (.int .i64 (skipF p u f k))):=by
 have hIe:=hI.e (Int.toNat f) (Int.toNat k)
 have hIl:=hI.ln (Int.toNat f)
 have hpc:=(pcOr_ok (pe_op_ok ((p.funcs.f (Int.toNat f)).lines) (u.ends.f (Int.toNat f)) (u.parent.f (Int.toNat f))) pc0_ok)
 refine ctr_body Tryd.func11 rfl (by kernel_rfl) Tryd.ntmps11 rfl rfl fun E hE=>?_
 refine g0 hpc 12 [] (.op 6 3 [cN 7]) ⟨[(10,pgA p),(11,.agg (infC u)),(12,.agg [iI f,iI k])],[],3⟩ ([]) aN ?_
 refine gc (d:=some 13) [] (spotted_ctr p u f k) ?_
 rintro _ _ _ _ (⟨hin,⟨⟩,rfl,rfl⟩ | ⟨hin,⟨⟩,rfl,rfl⟩)
 ·skip
  refine g0 hpc 33 [] (.go [cN 117,cN 15]) ⟨[(6,iI (-1))],[],5⟩ ([.b true]) (aT aN) ?_
  refine go_ret rfl ?_
  refine rf ⟨[(6,iI (-1))],[],0⟩ [iI (-1)] (cvR hE []) ?_
  refine congrArg (fun x=>Ret.ret (AV.int .i64 x)) ?_
  first | (have hsp:spB p u f k = false:=by rw [spB,hin,Bool.false_and]); simp [skipF,hsp]; done | simp [skipF, *]; done
 ·skip
  refine g0 hpc 14 [] (.op 28 3 [cN 29,cN 15]) ⟨[(7,.ptr 4 0),(18,.bool (!(okB p u f k)))],[(4,.row 83 [lns ((p.funcs.f (Int.toNat f)).lines),ints (u.ends.f (Int.toNat f)),ints (u.parent.f (Int.toNat f)),iI k])],5⟩ ([.b true]) (aT aN) ?_
  rcases Bool.eq_false_or_eq_true (!(okB p u f k)) with h1 | h1
  ·refine gb 18 true (!(okB p u f k)) (h1) ?_
   have hsp:spB p u f k = false:=by rw [spB,show okB p u f k = false by simpa using h1,Bool.and_false]
   refine g0 hpc 20 [] (.go [cN 117,cN 15]) ⟨[(6,iI (-1))],[],5⟩ ([]) aN ?_
   refine go_ret rfl ?_
   refine rf ⟨[(6,iI (-1))],[],0⟩ [iI (-1)] (cvR hE []) ?_
   refine congrArg (fun x=>Ret.ret (AV.int .i64 x)) ?_
   first | (have hsp:spB p u f k = false:=by rw [spB,hin,Bool.false_and]); simp [skipF,hsp]; done | simp [skipF, *]; done
  ·refine gb 18 false (!(okB p u f k)) (h1) ?_
   have h0k:okB p u f k = true:=(by simpa using h1); have hsp:spB p u f k = true:=(by rw [spB,hin,h0k]; rfl); have hok:=of_decide_eq_true h0k
   refine g0 hpc 7 [] (.op 28 9 [cN 29,cN 15]) ⟨[(7,.ptr 4 0),(18,.bool false),(24,.bool (!decide ((opF ((p.funcs.f (Int.toNat f)).lines) k) = 36)))],[(4,.row 83 [lns ((p.funcs.f (Int.toNat f)).lines),ints (u.ends.f (Int.toNat f)),ints (u.parent.f (Int.toNat f)),iI k])],5⟩ ([.p (∃ n,(AV.agg [lns ((p.funcs.f (Int.toNat f)).lines),ints (u.ends.f (Int.toNat f)),ints (u.parent.f (Int.toNat f)),iI k]) = .agg [lns ((p.funcs.f (Int.toNat f)).lines),ints (u.ends.f (Int.toNat f)),ints (u.parent.f (Int.toNat f)),.int .i64 n])]) (aP (by exact ⟨_,rfl⟩) aN) ?_
   by_cases h2:(opF ((p.funcs.f (Int.toNat f)).lines) k) = 36
   ·refine gb 24 false (!decide ((opF ((p.funcs.f (Int.toNat f)).lines) k) = 36)) (ndecF h2) ?_
    refine g0 hpc 22 [] (.go [cN 31]) ⟨[(6,iI (((u.ends.f (Int.toNat f)).f (Int.toNat k)) + 1))],[],5⟩ ([.b (rng (((u.ends.f (Int.toNat f)).f (Int.toNat k)) + 1)),.b (ixB k ((u.ends.f (Int.toNat f)).n))]) (aR (by omega) (by omega) (aD (by first | assumption | omega | (simp_all; done) | (simp_all; omega)) aN)) ?_
    refine go_ret rfl ?_
    refine rf ⟨[(6,iI (((u.ends.f (Int.toNat f)).f (Int.toNat k)) + 1))],[],0⟩ [iI (((u.ends.f (Int.toNat f)).f (Int.toNat k)) + 1)] (cvR hE []) ?_
    refine congrArg (fun x=>Ret.ret (AV.int .i64 x)) ?_
    first | (have hsp:spB p u f k = false:=by rw [spB,hin,Bool.false_and]); simp [skipF,hsp]; done | simp [skipF, *]; done
   ·refine gb 24 true (!decide ((opF ((p.funcs.f (Int.toNat f)).lines) k) = 36)) (ndec h2) ?_
    refine g0 hpc 9 [] (.go [cN 29,cN 15]) ⟨[(7,.ptr 4 0),(31,.bool (!decide ((opF ((p.funcs.f (Int.toNat f)).lines) k) = 38)))],[(4,.row 83 [lns ((p.funcs.f (Int.toNat f)).lines),ints (u.ends.f (Int.toNat f)),ints (u.parent.f (Int.toNat f)),iI k])],5⟩ ([.p (∃ n,(AV.agg [lns ((p.funcs.f (Int.toNat f)).lines),ints (u.ends.f (Int.toNat f)),ints (u.parent.f (Int.toNat f)),iI k]) = .agg [lns ((p.funcs.f (Int.toNat f)).lines),ints (u.ends.f (Int.toNat f)),ints (u.parent.f (Int.toNat f)),.int .i64 n])]) (aP (by exact ⟨_,rfl⟩) aN) ?_
    by_cases h3:(opF ((p.funcs.f (Int.toNat f)).lines) k) = 38
    ·refine gb 31 false (!decide ((opF ((p.funcs.f (Int.toNat f)).lines) k) = 38)) (ndecF h3) ?_
     refine g0 hpc 13 [] (.go [cN 31]) ⟨[(6,iI (((u.ends.f (Int.toNat f)).f (Int.toNat k)) + 1))],[],5⟩ ([.b (rng (((u.ends.f (Int.toNat f)).f (Int.toNat k)) + 1)),.b (ixB k ((u.ends.f (Int.toNat f)).n))]) (aR (by omega) (by omega) (aD (by first | assumption | omega | (simp_all; done) | (simp_all; omega)) aN)) ?_
     refine go_ret rfl ?_
     refine rf ⟨[(6,iI (((u.ends.f (Int.toNat f)).f (Int.toNat k)) + 1))],[],0⟩ [iI (((u.ends.f (Int.toNat f)).f (Int.toNat k)) + 1)] (cvR hE []) ?_
     refine congrArg (fun x=>Ret.ret (AV.int .i64 x)) ?_
     first | (have hsp:spB p u f k = false:=by rw [spB,hin,Bool.false_and]); simp [skipF,hsp]; done | simp [skipF, *]; done
    ·refine gb 31 true (!decide ((opF ((p.funcs.f (Int.toNat f)).lines) k) = 38)) (ndec h3) ?_
     refine g0 hpc 5 [] (.go [cN 117,cN 15]) ⟨[(6,iI (-1))],[],5⟩ ([]) aN ?_
     refine go_ret rfl ?_
     refine rf ⟨[(6,iI (-1))],[],0⟩ [iI (-1)] (cvR hE []) ?_
     refine congrArg (fun x=>Ret.ret (AV.int .i64 x)) ?_
     first | (have hsp:spB p u f k = false:=by rw [spB,hin,Bool.false_and]); simp [skipF,hsp]; done | simp [skipF, *]; done
def h_cskip (p:Pg) (u:Inf) (args:List AV):Option (AV × List Cnd):=match args with | [v,w,.agg [.int .i64 f,.int .i64 k]]=>some (.int .i64 (skipF p u f k),[.p (v = pgA p),.p (w = infA u),.p (InfB p u)]) | _=>none
theorem pe_cskip_ok (p:Pg) (u:Inf):PCOK Tryd.prog (pcF 11 (h_cskip p u)):=pcF_ok fun args v c h hc=>by
 unfold h_cskip at h
 split at h
 ·simp only [Option.some.injEq,Prod.mk.injEq] at h
  obtain ⟨rfl,rfl⟩:=h
  obtain ⟨rfl,rfl,hb,_⟩:=hc
  exact ⟨rfl,Ctr.pure rfl (cskip_ctr p u hb _ _) rfl⟩
 ·simp at h
end Go.SL
namespace Go.SL
open Go.Proofs
def slotI (l:Arr ByteArray) (s:ByteArray):Int:=idxI l.n (fun j=>decide (s = l.f j))
def slotF (u:Inf) (f:Int) (s:ByteArray):Int:=if f < 0 then -1 else if f ≥ u.slots.n then -1 else slotI (u.slots.f f.toNat) s
theorem lidx_ctr (l:Arr ByteArray) (hl:l.n < 1000000) (s:ByteArray):Ctr Tryd.prog 31 [strs l,.str s] [] 0 (fun r hp1 n1=>r = .ret (.int .i64 (slotI l s))):=by
 refine ctr_body Tryd.func31 rfl (by kernel_rfl) Tryd.ntmps31 rfl rfl fun E hE=>?_
 refine g0 pcs_ok 12 [] (.go [cN 26,.b 0,cN 7]) ⟨[(0,strs l),(1,.str s),(7,nI l.n),(8,iI 0)],[],0⟩ ([]) aN ?_
 refine go_loop (fun (k:Nat)=>⟨[(0,strs l),(1,.str s),(7,nI l.n),(8,nI k)],[],0⟩) (fun (k:Nat)=>k≤l.n∧∀ j,j < k→decide (s = l.f j) = false) (fun (k:Nat)=>l.n - k) (0:Nat) rfl (by exact ⟨by omega,fun j hj=>by omega⟩) (cvR hE []) ?_
 intro k hR10
 have hR1:k≤l.n∧∀ j,j < k→decide (s = l.f j) = false:=hR10
 refine g0 pcs_ok 5 [] (.go [cN 210,cN 211]) ⟨[(0,strs l),(1,.str s),(7,nI l.n),(8,nI k),(9,.bool (decide ((k:Int) < (l.n:Int))))],[],0⟩ ([]) aN ?_
 by_cases h2:(k:Int) < (l.n:Int)
 ·refine gb 9 true (decide ((k:Int) < (l.n:Int))) (decide_eq_true h2) ?_
  refine g0 pcs_ok 18 [] (.go [cN 3379,.b 1,cN 423]) ⟨[(0,strs l),(1,.str s),(5,nI k),(7,nI l.n),(8,nI k),(16,.bool (decide (s = (l.f k))))],[],0⟩ ([.b (ixB (k:Int) l.n)]) (aD (by first | assumption | omega | (simp_all; done) | (simp_all; omega)) aN) ?_
  by_cases h3:s = (l.f k)
  ·refine gb 16 true (decide (s = (l.f k))) (decide_eq_true h3) ?_
   refine g0 pcs_ok 6 [] (.go [cN 13517,.b 1,cN 423]) ⟨[(4,nI k)],[],0⟩ ([]) aN ?_
   refine go_ret rfl ?_
   refine rt_loop ?_
   refine rf ⟨[(4,nI k)],[],0⟩ [nI k] (cvR hE []) ?_
   refine congrArg (fun x=>Ret.ret (AV.int .i64 x)) ?_
   exact (idxI_found (by omega) (decide_eq_true h3) hR1.2).symm
  ·refine gb 16 false (decide (s = (l.f k))) (decide_eq_false h3) ?_
   refine g0 pcs_ok 7 [] (.go []) ⟨[(0,strs l),(1,.str s),(7,nI l.n),(8,nI (k + 1))],[],0⟩ ([.b (rng (((k + 1):Nat):Int))]) (aR (by omega) (by omega) aN) ?_
   refine go_again ((k + 1)) (by first | (dsimp only; omega) | omega) (by exact ⟨by omega,all_succ hR1.2 (decide_eq_false h3)⟩) (cvR hE [])
 ·refine gb 9 false (decide ((k:Int) < (l.n:Int))) (decide_eq_false h2) ?_
  refine g0 pcs_ok 1 [] (.go [cN 421,cN 211]) ⟨[],[],0⟩ ([]) aN ?_
  refine go_brk rfl rfl rfl ?_
  refine g0 pcs_ok 4 [] (.go [cN 15]) ⟨[(4,iI (-1))],[],0⟩ ([]) aN ?_
  refine go_ret rfl ?_
  refine rf ⟨[(4,iI (-1))],[],0⟩ [iI (-1)] (cvR hE []) ?_
  refine congrArg (fun x=>Ret.ret (AV.int .i64 x)) ?_
  exact (idxI_none fun j hj=>hR1.2 j (by omega)).symm
def h_lidx (l:Arr ByteArray) (args:List AV):Option (AV × List Cnd):=match args with | [v,.str s]=>some (.int .i64 (slotI l s),[.p (v = strs l),.p (l.n < 1000000)]) | _=>none
theorem pe_lidx_ok (l:Arr ByteArray):PCOK Tryd.prog (pcF 31 (h_lidx l)):=pcF_ok fun args v c h hc=>by
 unfold h_lidx at h
 split at h
 ·simp only [Option.some.injEq,Prod.mk.injEq] at h
  obtain ⟨rfl,rfl⟩:=h
  obtain ⟨rfl,hb,_⟩:=hc
  exact ⟨rfl,Ctr.pure rfl (lidx_ctr l hb _) rfl⟩
 ·simp at h
theorem slot_ctr (u:Inf) (hu:∀ f,(u.slots.f f).n < 1000) (f:Int) (s:ByteArray):Ctr Tryd.prog 14 [infA u,.int .i64 f,.str s] [] 0 (fun r hp1 n1=>r = .ret (.int .i64 (slotF u f s))):=by
 have hun:=hu (Int.toNat f)
 have hpc:=(pcOr_ok (pe_lidx_ok (u.slots.f (Int.toNat f))) pc0_ok)
 refine ctr_body Tryd.func14 rfl (by kernel_rfl) Tryd.ntmps14 rfl rfl fun E hE=>?_
 refine g0 hpc 11 [] (.op 12 3 [cN 13,cN 7]) ⟨[(1,iI f),(2,.str s),(3,.ptr 0 0),(9,.bool (decide (f < 0)))],[(0,.row 32 (infC u))],1⟩ ([]) aN ?_
 by_cases h1:f < 0
 ·refine gb 9 true (decide (f < 0)) (decide_eq_true h1) ?_
  refine g0 hpc 13 [] (.go [cN 53,cN 7]) ⟨[(6,iI (-1))],[],1⟩ ([]) aN ?_
  refine go_ret rfl ?_
  refine rf ⟨[(6,iI (-1))],[],0⟩ [iI (-1)] (cvR hE []) ?_
  first | exact congrArg (fun x=>Ret.ret (AV.int .i64 x)) (by unfold slotF; rw [if_pos (by omega)]) | exact congrArg (fun x=>Ret.ret (AV.int .i64 x)) (by unfold slotF; rw [if_neg (by omega),if_pos (by omega)]) | exact congrArg (fun x=>Ret.ret (AV.int .i64 x)) (by unfold slotF; rw [if_neg (by omega),if_neg (by omega)])
 ·refine gb 9 false (decide (f < 0)) (decide_eq_false h1) ?_
  refine g0 hpc 8 [] (.go [cN 13,cN 7]) ⟨[(1,iI f),(2,.str s),(3,.ptr 0 0),(15,.bool (decide (f ≥ (u.slots.n:Int))))],[(0,.row 32 (infC u))],1⟩ ([]) aN ?_
  by_cases h2:f ≥ (u.slots.n:Int)
  ·refine gb 15 true (decide (f ≥ (u.slots.n:Int))) (decide_eq_true h2) ?_
   refine g0 hpc 5 [] (.go [cN 53,cN 7]) ⟨[(6,iI (-1))],[],1⟩ ([]) aN ?_
   refine go_ret rfl ?_
   refine rf ⟨[(6,iI (-1))],[],0⟩ [iI (-1)] (cvR hE []) ?_
   first | exact congrArg (fun x=>Ret.ret (AV.int .i64 x)) (by unfold slotF; rw [if_pos (by omega)]) | exact congrArg (fun x=>Ret.ret (AV.int .i64 x)) (by unfold slotF; rw [if_neg (by omega),if_pos (by omega)]) | exact congrArg (fun x=>Ret.ret (AV.int .i64 x)) (by unfold slotF; rw [if_neg (by omega),if_neg (by omega)])
  ·refine gb 15 false (decide (f ≥ (u.slots.n:Int))) (decide_eq_false h2) ?_
   refine g0 hpc 13 [] (.go [cN 15]) ⟨[(6,iI (slotI (u.slots.f (Int.toNat f)) s))],[],1⟩ ([.p ((strs (u.slots.f (Int.toNat f))) = strs (u.slots.f (Int.toNat f))),.p ((u.slots.f (Int.toNat f)).n < 1000000),.b (ixB f u.slots.n)]) (aP (by rfl) (aP (by omega) (aD (by first | assumption | omega | (simp_all; done) | (simp_all; omega)) aN))) ?_
   refine go_ret rfl ?_
   refine rf ⟨[(6,iI (slotI (u.slots.f (Int.toNat f)) s))],[],0⟩ [iI (slotI (u.slots.f (Int.toNat f)) s)] (cvR hE []) ?_
   first | exact congrArg (fun x=>Ret.ret (AV.int .i64 x)) (by unfold slotF; rw [if_pos (by omega)]) | exact congrArg (fun x=>Ret.ret (AV.int .i64 x)) (by unfold slotF; rw [if_neg (by omega),if_pos (by omega)]) | exact congrArg (fun x=>Ret.ret (AV.int .i64 x)) (by unfold slotF; rw [if_neg (by omega),if_neg (by omega)])
def h_slot (u:Inf) (args:List AV):Option (AV × List Cnd):=match args with | [v,.int .i64 f,.str s]=>some (.int .i64 (slotF u f s),[.p (v = infA u),.p (∀ f,(u.slots.f f).n < 1000)]) | _=>none
theorem pe_slot_ok (u:Inf):PCOK Tryd.prog (pcF 14 (h_slot u)):=pcF_ok fun args v c h hc=>by
 unfold h_slot at h
 split at h
 ·simp only [Option.some.injEq,Prod.mk.injEq] at h
  obtain ⟨rfl,rfl⟩:=h
  obtain ⟨rfl,hb,_⟩:=hc
  exact ⟨rfl,Ctr.pure rfl (slot_ctr u hb _ _) rfl⟩
 ·simp at h
end Go.SL
