import Derived.Test.YtgbcmddacencjaaDoorFum
set_option linter.unusedSimpArgs false
set_option linter.unusedVariables false
namespace Go.SL
open Go.Proofs
def climb (Q:Arr Int) (hit:Int→Bool):Nat→Int→Option Int
 | 0,_=>none
 | m + 1,k=>if Q.f k.toNat < 0∨Q.f k.toNat ≥ k then none else if hit (Q.f k.toNat) = true then some (Q.f k.toNat) else climb Q hit m (Q.f k.toNat)
theorem climb_fuel (Q:Arr Int) (hit:Int→Bool):∀ (m m':Nat) (c:Int),c < m→c < m'→climb Q hit m c = climb Q hit m' c
 | 0,0,c,h,h'=>rfl
 | 0,m' + 1,c,h,h'=>by
  simp only [climb]; rw [if_pos]
  have:c.toNat = 0:=by omega
  omega
 | m + 1,0,c,h,h'=>by simp only [climb]; rw [if_pos]; omega
 | m + 1,m' + 1,c,h,h'=>by
  simp only [climb]
  split
  ·rfl
  ·split
   ·rfl
   ·exact climb_fuel Q hit m m' _ (by omega) (by omega)
def upF (Q:Arr Int) (hit:Int→Bool) (k:Int):Option Int:=climb Q hit (k.toNat + 1) k
theorem up_stop {Q:Arr Int} {hit:Int→Bool} {k:Int} (h:Q.f k.toNat < 0∨Q.f k.toNat ≥ k):upF Q hit k = none:=by simp only [upF,climb]; rw [if_pos h]
theorem up_hit {Q:Arr Int} {hit:Int→Bool} {k:Int} (h:¬ (Q.f k.toNat < 0∨Q.f k.toNat ≥ k)) (h2:hit (Q.f k.toNat) = true):upF Q hit k = some (Q.f k.toNat):=by simp only [upF,climb]; rw [if_neg h,if_pos h2]
theorem up_go {Q:Arr Int} {hit:Int→Bool} {k:Int} (h:¬ (Q.f k.toNat < 0∨Q.f k.toNat ≥ k)) (h2:hit (Q.f k.toNat) = false):upF Q hit k = upF Q hit (Q.f k.toNat):=by
 simp only [upF,climb]; rw [if_neg h,if_neg (by rw [h2]; simp)]
 exact climb_fuel Q hit k.toNat ((Q.f k.toNat).toNat + 1) (Q.f k.toNat) (by omega) (by omega)
def catA (L:Arr Ln) (D:Arr Int) (c:Int):Bool:=decide (opF L c = 39∧opF L (D.f c.toNat) = 40)
def catC (L:Arr Ln) (D:Arr Int) (c:Int):Bool:=decide (opF L c = 39∨opF L c = 40∧opF L (D.f c.toNat) = 41)
def catH (L:Arr Ln) (D:Arr Int) (c:Int):Bool:=catA L D c || catC L D c
def finE (L:Arr Ln) (D:Arr Int) (c:Int):Int:=if opF L c = 39∧opF L (D.f c.toNat) = 40 then D.f (D.f c.toNat).toNat else D.f c.toNat
def finH (L:Arr Ln) (D:Arr Int) (c:Int):Bool:=decide ((opF L c = 39∨opF L c = 40)∧opF L (finE L D c) = 41)
theorem opF_in {L:Arr Ln} {k:Int} (h:opF L k ≠ 0):0≤k∧k < L.n:=by
 unfold opF at h; split at h
 ·exact absurd rfl h
 ·split at h
  ·exact absurd rfl h
  ·omega
theorem catA_ctr (L:Arr Ln) (D Q:Arr Int) (k f:Int) (u:Inf) (hI:∀ f,(u.slots.f f).n < 1000) (c:Int) (hn:L.n < 1000) (hD:D.n = L.n) (hc:0≤c∧c < L.n) (hd:-1000≤D.f (Int.toNat c)∧D.f (Int.toNat c)≤1000) (hk:opF L c = 39∧opF L (D.f (Int.toNat c)) = 40):Ctr Tryd.prog 29 [iI c,.ptr 0 0,.ptr 1 0,.ptr 2 0,.ptr 3 0,.ptr 4 0,.ptr 5 0,.ptr 6 0] [(0,.row 83 [lns L,ints D,ints Q,iI k]),(1,.row 32 (infC u)),(2,.row 34 [iI f,iI k]),(3,.row 3 [iI (-1)]),(4,.row 3 [iI (-1)]),(5,.row 4 [.bool false]),(6,.row 4 [.bool false])] 7 (fun r hp1 n1=>r = .ret (.bool true)∧hp1 = [(0,.row 83 [lns L,ints D,ints Q,iI k]),(1,.row 32 (infC u)),(2,.row 34 [iI f,iI k]),(3,.row 3 [iI ((D.f (Int.toNat c)) + 1)]),(4,.row 3 [iI (slotF u f ((L.f (Int.toNat (D.f (Int.toNat c)))).a))]),(5,.row 4 [.bool true]),(6,.row 4 [.bool false])]∧n1 = 7):=by
 have hop:=@opF_in L (D.f (Int.toNat c))
 have hpc:=(pcOr_ok (pe_op_ok L D Q) (pcOr_ok (pe_slot_ok u) pc0_ok))
 refine ctr_body Tryd.func29 rfl (by kernel_rfl) Tryd.ntmps29 rfl rfl fun E hE=>?_
 refine g0 hpc 22 [] (.op 116 3 [cN 117,.b 0,cN 15]) ⟨[(1,.ptr 0 0),(2,.ptr 1 0),(3,.ptr 2 0),(4,.ptr 3 0),(5,.ptr 4 0),(6,.ptr 5 0),(7,.ptr 6 0),(10,iI (D.f (Int.toNat c))),(11,iI (opF L c)),(12,iI (opF L (D.f (Int.toNat c)))),(27,.bool (decide ((opF L c) = 39)))],[(0,.row 83 [lns L,ints D,ints Q,iI k]),(1,.row 32 (infC u)),(2,.row 34 [iI f,iI k]),(3,.row 3 [iI (-1)]),(4,.row 3 [iI (-1)]),(5,.row 4 [.bool false]),(6,.row 4 [.bool false])],7⟩ ([.p (∃ n,(AV.agg [lns L,ints D,ints Q,iI k]) = .agg [lns L,ints D,ints Q,.int .i64 n]),.p (∃ n,(AV.agg [lns L,ints D,ints Q,iI k]) = .agg [lns L,ints D,ints Q,.int .i64 n]),.b (ixB c D.n)]) (aP (by exact ⟨_,rfl⟩) (aP (by exact ⟨_,rfl⟩) (aD (by first | assumption | omega | (simp_all; done) | (simp_all; omega)) aN))) ?_
 refine gb 27 true (decide ((opF L c) = 39)) (decide_eq_true hk.1) ?_
 refine g0 hpc 6 [] (.go [cN 117,.b 0,cN 15]) ⟨[(1,.ptr 0 0),(2,.ptr 1 0),(3,.ptr 2 0),(4,.ptr 3 0),(5,.ptr 4 0),(6,.ptr 5 0),(7,.ptr 6 0),(10,iI (D.f (Int.toNat c))),(11,iI (opF L c)),(12,iI (opF L (D.f (Int.toNat c)))),(24,.bool (decide ((opF L (D.f (Int.toNat c))) = 40)))],[(0,.row 83 [lns L,ints D,ints Q,iI k]),(1,.row 32 (infC u)),(2,.row 34 [iI f,iI k]),(3,.row 3 [iI (-1)]),(4,.row 3 [iI (-1)]),(5,.row 4 [.bool false]),(6,.row 4 [.bool false])],7⟩ ([]) aN ?_
 refine gb 24 true (decide ((opF L (D.f (Int.toNat c))) = 40)) (decide_eq_true hk.2) ?_
 refine g0 hpc 8 [] (.go [cN 31]) ⟨[(9,.bool true)],[(0,.row 83 [lns L,ints D,ints Q,iI k]),(1,.row 32 (infC u)),(2,.row 34 [iI f,iI k]),(3,.row 3 [iI ((D.f (Int.toNat c)) + 1)]),(4,.row 3 [iI (slotF u f ((L.f (Int.toNat (D.f (Int.toNat c)))).a))]),(5,.row 4 [.bool true]),(6,.row 4 [.bool false])],7⟩ ([.b true,.b true,.b true,.p ((AV.agg (infC u)) = infA u),.p (∀ f,(u.slots.f f).n < 1000),.b (ixB (D.f (Int.toNat c)) L.n),.b (rng ((D.f (Int.toNat c)) + 1))]) (aT (aT (aT (aP (by rfl) (aP (by first | assumption | exact hI.s) (aD (by first | assumption | omega | (simp_all; done) | (simp_all; omega)) (aR (by omega) (by omega) aN))))))) ?_
 refine go_ret rfl ?_
 refine rf ⟨[(9,.bool true)],[(0,.row 83 [lns L,ints D,ints Q,iI k]),(1,.row 32 (infC u)),(2,.row 34 [iI f,iI k]),(3,.row 3 [iI ((D.f (Int.toNat c)) + 1)]),(4,.row 3 [iI (slotF u f ((L.f (Int.toNat (D.f (Int.toNat c)))).a))]),(5,.row 4 [.bool true]),(6,.row 4 [.bool false])],7⟩ [.bool true] (cvR hE [0,1,2,3,4,5,6]) ?_
 first | exact ⟨rfl,rfl,rfl⟩ | (exfalso; omega)
theorem catC1_ctr (L:Arr Ln) (D Q:Arr Int) (k f:Int) (u:Inf) (hI:∀ f,(u.slots.f f).n < 1000) (c:Int) (hn:L.n < 1000) (hD:D.n = L.n) (hc:0≤c∧c < L.n) (hd:-1000≤D.f (Int.toNat c)∧D.f (Int.toNat c)≤1000) (hk:opF L c = 39∧¬ opF L (D.f (Int.toNat c)) = 40):Ctr Tryd.prog 29 [iI c,.ptr 0 0,.ptr 1 0,.ptr 2 0,.ptr 3 0,.ptr 4 0,.ptr 5 0,.ptr 6 0] [(0,.row 83 [lns L,ints D,ints Q,iI k]),(1,.row 32 (infC u)),(2,.row 34 [iI f,iI k]),(3,.row 3 [iI (-1)]),(4,.row 3 [iI (-1)]),(5,.row 4 [.bool false]),(6,.row 4 [.bool false])] 7 (fun r hp1 n1=>r = .ret (.bool true)∧hp1 = [(0,.row 83 [lns L,ints D,ints Q,iI k]),(1,.row 32 (infC u)),(2,.row 34 [iI f,iI k]),(3,.row 3 [iI ((D.f (Int.toNat c)) + 1)]),(4,.row 3 [iI (-1)]),(5,.row 4 [.bool true]),(6,.row 4 [.bool true])]∧n1 = 7):=by
 have hpc:=(pcOr_ok (pe_op_ok L D Q) (pcOr_ok (pe_slot_ok u) pc0_ok))
 refine ctr_body Tryd.func29 rfl (by kernel_rfl) Tryd.ntmps29 rfl rfl fun E hE=>?_
 refine g0 hpc 22 [] (.op 116 3 [cN 117,.b 0,cN 15]) ⟨[(1,.ptr 0 0),(2,.ptr 1 0),(3,.ptr 2 0),(4,.ptr 3 0),(5,.ptr 4 0),(6,.ptr 5 0),(7,.ptr 6 0),(10,iI (D.f (Int.toNat c))),(11,iI (opF L c)),(12,iI (opF L (D.f (Int.toNat c)))),(27,.bool (decide ((opF L c) = 39)))],[(0,.row 83 [lns L,ints D,ints Q,iI k]),(1,.row 32 (infC u)),(2,.row 34 [iI f,iI k]),(3,.row 3 [iI (-1)]),(4,.row 3 [iI (-1)]),(5,.row 4 [.bool false]),(6,.row 4 [.bool false])],7⟩ ([.p (∃ n,(AV.agg [lns L,ints D,ints Q,iI k]) = .agg [lns L,ints D,ints Q,.int .i64 n]),.p (∃ n,(AV.agg [lns L,ints D,ints Q,iI k]) = .agg [lns L,ints D,ints Q,.int .i64 n]),.b (ixB c D.n)]) (aP (by exact ⟨_,rfl⟩) (aP (by exact ⟨_,rfl⟩) (aD (by first | assumption | omega | (simp_all; done) | (simp_all; omega)) aN))) ?_
 refine gb 27 true (decide ((opF L c) = 39)) (decide_eq_true hk.1) ?_
 refine g0 hpc 6 [] (.go [cN 117,.b 0,cN 15]) ⟨[(1,.ptr 0 0),(2,.ptr 1 0),(3,.ptr 2 0),(4,.ptr 3 0),(5,.ptr 4 0),(6,.ptr 5 0),(7,.ptr 6 0),(10,iI (D.f (Int.toNat c))),(11,iI (opF L c)),(12,iI (opF L (D.f (Int.toNat c)))),(24,.bool (decide ((opF L (D.f (Int.toNat c))) = 40)))],[(0,.row 83 [lns L,ints D,ints Q,iI k]),(1,.row 32 (infC u)),(2,.row 34 [iI f,iI k]),(3,.row 3 [iI (-1)]),(4,.row 3 [iI (-1)]),(5,.row 4 [.bool false]),(6,.row 4 [.bool false])],7⟩ ([]) aN ?_
 refine gb 24 false (decide ((opF L (D.f (Int.toNat c))) = 40)) (decide_eq_false hk.2) ?_
 refine g0 hpc 8 [] (.go [cN 941,cN 471,.b 0,cN 15]) ⟨[(4,.ptr 3 0),(6,.ptr 5 0),(7,.ptr 6 0),(10,iI (D.f (Int.toNat c))),(11,iI (opF L c)),(12,iI (opF L (D.f (Int.toNat c)))),(43,.bool (decide ((opF L c) = 39)))],[(0,.row 83 [lns L,ints D,ints Q,iI k]),(1,.row 32 (infC u)),(2,.row 34 [iI f,iI k]),(3,.row 3 [iI (-1)]),(4,.row 3 [iI (-1)]),(5,.row 4 [.bool false]),(6,.row 4 [.bool false])],7⟩ ([]) aN ?_
 refine gb 43 true (decide ((opF L c) = 39)) (decide_eq_true hk.1) ?_
 refine g0 hpc 16 [] (.go [cN 31]) ⟨[(9,.bool true)],[(0,.row 83 [lns L,ints D,ints Q,iI k]),(1,.row 32 (infC u)),(2,.row 34 [iI f,iI k]),(3,.row 3 [iI ((D.f (Int.toNat c)) + 1)]),(4,.row 3 [iI (-1)]),(5,.row 4 [.bool true]),(6,.row 4 [.bool true])],7⟩ ([.b true,.b true,.b true,.b (rng ((D.f (Int.toNat c)) + 1))]) (aT (aT (aT (aR (by omega) (by omega) aN)))) ?_
 refine go_ret rfl ?_
 refine rf ⟨[(9,.bool true)],[(0,.row 83 [lns L,ints D,ints Q,iI k]),(1,.row 32 (infC u)),(2,.row 34 [iI f,iI k]),(3,.row 3 [iI ((D.f (Int.toNat c)) + 1)]),(4,.row 3 [iI (-1)]),(5,.row 4 [.bool true]),(6,.row 4 [.bool true])],7⟩ [.bool true] (cvR hE [0,1,2,3,4,5,6]) ?_
 first | exact ⟨rfl,rfl,rfl⟩ | (exfalso; omega)
theorem catC2_ctr (L:Arr Ln) (D Q:Arr Int) (k f:Int) (u:Inf) (hI:∀ f,(u.slots.f f).n < 1000) (c:Int) (hn:L.n < 1000) (hD:D.n = L.n) (hc:0≤c∧c < L.n) (hd:-1000≤D.f (Int.toNat c)∧D.f (Int.toNat c)≤1000) (hk:opF L c = 40∧opF L (D.f (Int.toNat c)) = 41):Ctr Tryd.prog 29 [iI c,.ptr 0 0,.ptr 1 0,.ptr 2 0,.ptr 3 0,.ptr 4 0,.ptr 5 0,.ptr 6 0] [(0,.row 83 [lns L,ints D,ints Q,iI k]),(1,.row 32 (infC u)),(2,.row 34 [iI f,iI k]),(3,.row 3 [iI (-1)]),(4,.row 3 [iI (-1)]),(5,.row 4 [.bool false]),(6,.row 4 [.bool false])] 7 (fun r hp1 n1=>r = .ret (.bool true)∧hp1 = [(0,.row 83 [lns L,ints D,ints Q,iI k]),(1,.row 32 (infC u)),(2,.row 34 [iI f,iI k]),(3,.row 3 [iI ((D.f (Int.toNat c)) + 1)]),(4,.row 3 [iI (-1)]),(5,.row 4 [.bool true]),(6,.row 4 [.bool true])]∧n1 = 7):=by
 have hpc:=(pcOr_ok (pe_op_ok L D Q) (pcOr_ok (pe_slot_ok u) pc0_ok))
 refine ctr_body Tryd.func29 rfl (by kernel_rfl) Tryd.ntmps29 rfl rfl fun E hE=>?_
 refine g0 hpc 22 [] (.op 116 3 [cN 117,.b 0,cN 15]) ⟨[(1,.ptr 0 0),(2,.ptr 1 0),(3,.ptr 2 0),(4,.ptr 3 0),(5,.ptr 4 0),(6,.ptr 5 0),(7,.ptr 6 0),(10,iI (D.f (Int.toNat c))),(11,iI (opF L c)),(12,iI (opF L (D.f (Int.toNat c)))),(27,.bool (decide ((opF L c) = 39)))],[(0,.row 83 [lns L,ints D,ints Q,iI k]),(1,.row 32 (infC u)),(2,.row 34 [iI f,iI k]),(3,.row 3 [iI (-1)]),(4,.row 3 [iI (-1)]),(5,.row 4 [.bool false]),(6,.row 4 [.bool false])],7⟩ ([.p (∃ n,(AV.agg [lns L,ints D,ints Q,iI k]) = .agg [lns L,ints D,ints Q,.int .i64 n]),.p (∃ n,(AV.agg [lns L,ints D,ints Q,iI k]) = .agg [lns L,ints D,ints Q,.int .i64 n]),.b (ixB c D.n)]) (aP (by exact ⟨_,rfl⟩) (aP (by exact ⟨_,rfl⟩) (aD (by first | assumption | omega | (simp_all; done) | (simp_all; omega)) aN))) ?_
 refine gb 27 false (decide ((opF L c) = 39)) (decide_eq_false (by omega)) ?_
 refine g0 hpc 14 [] (.go [cN 941,cN 471,.b 0,cN 15]) ⟨[(4,.ptr 3 0),(6,.ptr 5 0),(7,.ptr 6 0),(10,iI (D.f (Int.toNat c))),(11,iI (opF L c)),(12,iI (opF L (D.f (Int.toNat c)))),(43,.bool (decide ((opF L c) = 39)))],[(0,.row 83 [lns L,ints D,ints Q,iI k]),(1,.row 32 (infC u)),(2,.row 34 [iI f,iI k]),(3,.row 3 [iI (-1)]),(4,.row 3 [iI (-1)]),(5,.row 4 [.bool false]),(6,.row 4 [.bool false])],7⟩ ([]) aN ?_
 refine gb 43 false (decide ((opF L c) = 39)) (decide_eq_false (by omega)) ?_
 refine g0 hpc 5 [] (.op 1883 3 [cN 471,.b 0,cN 15]) ⟨[(4,.ptr 3 0),(6,.ptr 5 0),(7,.ptr 6 0),(10,iI (D.f (Int.toNat c))),(12,iI (opF L (D.f (Int.toNat c)))),(48,.bool (decide ((opF L c) = 40)))],[(0,.row 83 [lns L,ints D,ints Q,iI k]),(1,.row 32 (infC u)),(2,.row 34 [iI f,iI k]),(3,.row 3 [iI (-1)]),(4,.row 3 [iI (-1)]),(5,.row 4 [.bool false]),(6,.row 4 [.bool false])],7⟩ ([]) aN ?_
 refine gb 48 true (decide ((opF L c) = 40)) (decide_eq_true hk.1) ?_
 refine g0 hpc 6 [] (.go [cN 471,.b 0,cN 15]) ⟨[(4,.ptr 3 0),(6,.ptr 5 0),(7,.ptr 6 0),(10,iI (D.f (Int.toNat c))),(43,.bool (decide ((opF L (D.f (Int.toNat c))) = 41)))],[(0,.row 83 [lns L,ints D,ints Q,iI k]),(1,.row 32 (infC u)),(2,.row 34 [iI f,iI k]),(3,.row 3 [iI (-1)]),(4,.row 3 [iI (-1)]),(5,.row 4 [.bool false]),(6,.row 4 [.bool false])],7⟩ ([]) aN ?_
 refine gb 43 true (decide ((opF L (D.f (Int.toNat c))) = 41)) (decide_eq_true hk.2) ?_
 refine g0 hpc 14 [] (.go [cN 31]) ⟨[(9,.bool true)],[(0,.row 83 [lns L,ints D,ints Q,iI k]),(1,.row 32 (infC u)),(2,.row 34 [iI f,iI k]),(3,.row 3 [iI ((D.f (Int.toNat c)) + 1)]),(4,.row 3 [iI (-1)]),(5,.row 4 [.bool true]),(6,.row 4 [.bool true])],7⟩ ([.b true,.b true,.b true,.b (rng ((D.f (Int.toNat c)) + 1))]) (aT (aT (aT (aR (by omega) (by omega) aN)))) ?_
 refine go_ret rfl ?_
 refine rf ⟨[(9,.bool true)],[(0,.row 83 [lns L,ints D,ints Q,iI k]),(1,.row 32 (infC u)),(2,.row 34 [iI f,iI k]),(3,.row 3 [iI ((D.f (Int.toNat c)) + 1)]),(4,.row 3 [iI (-1)]),(5,.row 4 [.bool true]),(6,.row 4 [.bool true])],7⟩ [.bool true] (cvR hE [0,1,2,3,4,5,6]) ?_
 first | exact ⟨rfl,rfl,rfl⟩ | (exfalso; omega)
theorem catN_ctr (L:Arr Ln) (D Q:Arr Int) (k f:Int) (u:Inf) (hI:∀ f,(u.slots.f f).n < 1000) (c:Int) (hn:L.n < 1000) (hD:D.n = L.n) (hc:0≤c∧c < L.n) (hd:-1000≤D.f (Int.toNat c)∧D.f (Int.toNat c)≤1000) (hk:¬ opF L c = 39∧¬ (opF L c = 40∧opF L (D.f (Int.toNat c)) = 41)):Ctr Tryd.prog 29 [iI c,.ptr 0 0,.ptr 1 0,.ptr 2 0,.ptr 3 0,.ptr 4 0,.ptr 5 0,.ptr 6 0] [(0,.row 83 [lns L,ints D,ints Q,iI k]),(1,.row 32 (infC u)),(2,.row 34 [iI f,iI k]),(3,.row 3 [iI (-1)]),(4,.row 3 [iI (-1)]),(5,.row 4 [.bool false]),(6,.row 4 [.bool false])] 7 (fun r hp1 n1=>r = .ret (.bool false)∧hp1 = [(0,.row 83 [lns L,ints D,ints Q,iI k]),(1,.row 32 (infC u)),(2,.row 34 [iI f,iI k]),(3,.row 3 [iI (-1)]),(4,.row 3 [iI (-1)]),(5,.row 4 [.bool false]),(6,.row 4 [.bool false])]∧n1 = 7):=by
 have hpc:=(pcOr_ok (pe_op_ok L D Q) (pcOr_ok (pe_slot_ok u) pc0_ok))
 refine ctr_body Tryd.func29 rfl (by kernel_rfl) Tryd.ntmps29 rfl rfl fun E hE=>?_
 refine g0 hpc 22 [] (.op 116 3 [cN 117,.b 0,cN 15]) ⟨[(1,.ptr 0 0),(2,.ptr 1 0),(3,.ptr 2 0),(4,.ptr 3 0),(5,.ptr 4 0),(6,.ptr 5 0),(7,.ptr 6 0),(10,iI (D.f (Int.toNat c))),(11,iI (opF L c)),(12,iI (opF L (D.f (Int.toNat c)))),(27,.bool (decide ((opF L c) = 39)))],[(0,.row 83 [lns L,ints D,ints Q,iI k]),(1,.row 32 (infC u)),(2,.row 34 [iI f,iI k]),(3,.row 3 [iI (-1)]),(4,.row 3 [iI (-1)]),(5,.row 4 [.bool false]),(6,.row 4 [.bool false])],7⟩ ([.p (∃ n,(AV.agg [lns L,ints D,ints Q,iI k]) = .agg [lns L,ints D,ints Q,.int .i64 n]),.p (∃ n,(AV.agg [lns L,ints D,ints Q,iI k]) = .agg [lns L,ints D,ints Q,.int .i64 n]),.b (ixB c D.n)]) (aP (by exact ⟨_,rfl⟩) (aP (by exact ⟨_,rfl⟩) (aD (by first | assumption | omega | (simp_all; done) | (simp_all; omega)) aN))) ?_
 refine gb 27 false (decide ((opF L c) = 39)) (decide_eq_false hk.1) ?_
 refine g0 hpc 14 [] (.go [cN 941,cN 471,.b 0,cN 15]) ⟨[(4,.ptr 3 0),(6,.ptr 5 0),(7,.ptr 6 0),(10,iI (D.f (Int.toNat c))),(11,iI (opF L c)),(12,iI (opF L (D.f (Int.toNat c)))),(43,.bool (decide ((opF L c) = 39)))],[(0,.row 83 [lns L,ints D,ints Q,iI k]),(1,.row 32 (infC u)),(2,.row 34 [iI f,iI k]),(3,.row 3 [iI (-1)]),(4,.row 3 [iI (-1)]),(5,.row 4 [.bool false]),(6,.row 4 [.bool false])],7⟩ ([]) aN ?_
 refine gb 43 false (decide ((opF L c) = 39)) (decide_eq_false hk.1) ?_
 refine g0 hpc 5 [] (.op 1883 3 [cN 471,.b 0,cN 15]) ⟨[(4,.ptr 3 0),(6,.ptr 5 0),(7,.ptr 6 0),(10,iI (D.f (Int.toNat c))),(12,iI (opF L (D.f (Int.toNat c)))),(48,.bool (decide ((opF L c) = 40)))],[(0,.row 83 [lns L,ints D,ints Q,iI k]),(1,.row 32 (infC u)),(2,.row 34 [iI f,iI k]),(3,.row 3 [iI (-1)]),(4,.row 3 [iI (-1)]),(5,.row 4 [.bool false]),(6,.row 4 [.bool false])],7⟩ ([]) aN ?_
 by_cases h1:(opF L c) = 40
 ·refine gb 48 true (decide ((opF L c) = 40)) (decide_eq_true h1) ?_
  refine g0 hpc 6 [] (.go [cN 471,.b 0,cN 15]) ⟨[(4,.ptr 3 0),(6,.ptr 5 0),(7,.ptr 6 0),(10,iI (D.f (Int.toNat c))),(43,.bool (decide ((opF L (D.f (Int.toNat c))) = 41)))],[(0,.row 83 [lns L,ints D,ints Q,iI k]),(1,.row 32 (infC u)),(2,.row 34 [iI f,iI k]),(3,.row 3 [iI (-1)]),(4,.row 3 [iI (-1)]),(5,.row 4 [.bool false]),(6,.row 4 [.bool false])],7⟩ ([]) aN ?_
  by_cases h2:(opF L (D.f (Int.toNat c))) = 41
  ·refine gb 43 true (decide ((opF L (D.f (Int.toNat c))) = 41)) (decide_eq_true h2) ?_
   refine g0 hpc 14 [] (.go [cN 31]) ⟨[(9,.bool true)],[(0,.row 83 [lns L,ints D,ints Q,iI k]),(1,.row 32 (infC u)),(2,.row 34 [iI f,iI k]),(3,.row 3 [iI ((D.f (Int.toNat c)) + 1)]),(4,.row 3 [iI (-1)]),(5,.row 4 [.bool true]),(6,.row 4 [.bool true])],7⟩ ([.b true,.b true,.b true,.b (rng ((D.f (Int.toNat c)) + 1))]) (aT (aT (aT (aR (by omega) (by omega) aN)))) ?_
   refine go_ret rfl ?_
   refine rf ⟨[(9,.bool true)],[(0,.row 83 [lns L,ints D,ints Q,iI k]),(1,.row 32 (infC u)),(2,.row 34 [iI f,iI k]),(3,.row 3 [iI ((D.f (Int.toNat c)) + 1)]),(4,.row 3 [iI (-1)]),(5,.row 4 [.bool true]),(6,.row 4 [.bool true])],7⟩ [.bool true] (cvR hE [0,1,2,3,4,5,6]) ?_
   first | exact ⟨rfl,rfl,rfl⟩ | (exfalso; omega)
  ·refine gb 43 false (decide ((opF L (D.f (Int.toNat c))) = 41)) (decide_eq_false h2) ?_
   refine g0 hpc 8 [] (.go [cN 31]) ⟨[(9,.bool false)],[(0,.row 83 [lns L,ints D,ints Q,iI k]),(1,.row 32 (infC u)),(2,.row 34 [iI f,iI k]),(3,.row 3 [iI (-1)]),(4,.row 3 [iI (-1)]),(5,.row 4 [.bool false]),(6,.row 4 [.bool false])],7⟩ ([]) aN ?_
   refine go_ret rfl ?_
   refine rf ⟨[(9,.bool false)],[(0,.row 83 [lns L,ints D,ints Q,iI k]),(1,.row 32 (infC u)),(2,.row 34 [iI f,iI k]),(3,.row 3 [iI (-1)]),(4,.row 3 [iI (-1)]),(5,.row 4 [.bool false]),(6,.row 4 [.bool false])],7⟩ [.bool false] (cvR hE [0,1,2,3,4,5,6]) ?_
   first | exact ⟨rfl,rfl,rfl⟩ | (exfalso; omega)
 ·refine gb 48 false (decide ((opF L c) = 40)) (decide_eq_false h1) ?_
  refine g0 hpc 14 [] (.go [cN 31]) ⟨[(9,.bool false)],[(0,.row 83 [lns L,ints D,ints Q,iI k]),(1,.row 32 (infC u)),(2,.row 34 [iI f,iI k]),(3,.row 3 [iI (-1)]),(4,.row 3 [iI (-1)]),(5,.row 4 [.bool false]),(6,.row 4 [.bool false])],7⟩ ([]) aN ?_
  refine go_ret rfl ?_
  refine rf ⟨[(9,.bool false)],[(0,.row 83 [lns L,ints D,ints Q,iI k]),(1,.row 32 (infC u)),(2,.row 34 [iI f,iI k]),(3,.row 3 [iI (-1)]),(4,.row 3 [iI (-1)]),(5,.row 4 [.bool false]),(6,.row 4 [.bool false])],7⟩ [.bool false] (cvR hE [0,1,2,3,4,5,6]) ?_
  first | exact ⟨rfl,rfl,rfl⟩ | (exfalso; omega)
theorem around_catch_ctr (L:Arr Ln) (D Q:Arr Int) (k f:Int) (u:Inf) (hI:∀ f,(u.slots.f f).n < 1000) (hn:L.n < 1000) (hD:D.n = L.n) (hQ:Q.n = L.n) (hd:∀ c:Int,-1000≤D.f (Int.toNat c)∧D.f (Int.toNat c)≤1000) (hk0:0≤k∧k < L.n):Ctr Tryd.prog 28 [.agg [lns L,ints D,ints Q,iI k],.func (.func 29) [] [.ptr 0 0,.ptr 1 0,.ptr 2 0,.ptr 3 0,.ptr 4 0,.ptr 5 0,.ptr 6 0]] [(0,.row 83 [lns L,ints D,ints Q,iI k]),(1,.row 32 (infC u)),(2,.row 34 [iI f,iI k]),(3,.row 3 [iI (-1)]),(4,.row 3 [iI (-1)]),(5,.row 4 [.bool false]),(6,.row 4 [.bool false])] 7 (fun r hp1 n1=>(upF Q (catH L D) k = none∧r = .ret (.tuple [])∧hp1 = [(0,.row 83 [lns L,ints D,ints Q,iI k]),(1,.row 32 (infC u)),(2,.row 34 [iI f,iI k]),(3,.row 3 [iI (-1)]),(4,.row 3 [iI (-1)]),(5,.row 4 [.bool false]),(6,.row 4 [.bool false])]∧n1 = 7)∨(∃ c,upF Q (catH L D) k = some c∧catA L D c = true∧r = .ret (.tuple [])∧hp1 = [(0,.row 83 [lns L,ints D,ints Q,iI k]),(1,.row 32 (infC u)),(2,.row 34 [iI f,iI k]),(3,.row 3 [iI ((D.f (Int.toNat c)) + 1)]),(4,.row 3 [iI (slotF u f ((L.f (Int.toNat (D.f (Int.toNat c)))).a))]),(5,.row 4 [.bool true]),(6,.row 4 [.bool false])]∧n1 = 7)∨(∃ c,upF Q (catH L D) k = some c∧catA L D c = false∧r = .ret (.tuple [])∧hp1 = [(0,.row 83 [lns L,ints D,ints Q,iI k]),(1,.row 32 (infC u)),(2,.row 34 [iI f,iI k]),(3,.row 3 [iI ((D.f (Int.toNat c)) + 1)]),(4,.row 3 [iI (-1)]),(5,.row 4 [.bool true]),(6,.row 4 [.bool true])]∧n1 = 7)):=by
 refine ctr_body Tryd.func28 rfl (by kernel_rfl) Tryd.ntmps28 rfl rfl fun E hE=>?_
 refine g0 pcs_ok 11 [] (.go [cN 14,.b 0]) ⟨[(1,.func (.func 29) [] [.ptr 0 0,.ptr 1 0,.ptr 2 0,.ptr 3 0,.ptr 4 0,.ptr 5 0,.ptr 6 0]),(2,.ptr 7 0),(4,iI k)],[(0,.row 83 [lns L,ints D,ints Q,iI k]),(1,.row 32 (infC u)),(2,.row 34 [iI f,iI k]),(3,.row 3 [iI (-1)]),(4,.row 3 [iI (-1)]),(5,.row 4 [.bool false]),(6,.row 4 [.bool false]),(7,.row 83 [lns L,ints D,ints Q,iI k])],8⟩ ([]) aN ?_
 refine go_loop (fun (j:Int)=>⟨[(1,.func (.func 29) [] [.ptr 0 0,.ptr 1 0,.ptr 2 0,.ptr 3 0,.ptr 4 0,.ptr 5 0,.ptr 6 0]),(2,.ptr 7 0),(4,iI j)],[(0,.row 83 [lns L,ints D,ints Q,iI k]),(1,.row 32 (infC u)),(2,.row 34 [iI f,iI k]),(3,.row 3 [iI (-1)]),(4,.row 3 [iI (-1)]),(5,.row 4 [.bool false]),(6,.row 4 [.bool false]),(7,.row 83 [lns L,ints D,ints Q,iI k])],8⟩) (fun (j:Int)=>upF Q (catH L D) j = upF Q (catH L D) k∧0≤j∧j < L.n) (fun (j:Int)=>Int.toNat j) (k:Int) rfl (by exact ⟨rfl,hk0⟩) (cvR hE [0,1,2,3,4,5,6,7]) ?_
 intro j hR10
 have hR1:upF Q (catH L D) j = upF Q (catH L D) k∧0≤j∧j < L.n:=hR10
 refine g0 pcs_ok 16 [] (.op 452 3 [cN 453,cN 227,.b 1]) ⟨[(1,.func (.func 29) [] [.ptr 0 0,.ptr 1 0,.ptr 2 0,.ptr 3 0,.ptr 4 0,.ptr 5 0,.ptr 6 0]),(2,.ptr 7 0),(4,iI j),(5,iI (Q.f (Int.toNat j))),(15,.bool (decide ((Q.f (Int.toNat j)) < 0)))],[(0,.row 83 [lns L,ints D,ints Q,iI k]),(1,.row 32 (infC u)),(2,.row 34 [iI f,iI k]),(3,.row 3 [iI (-1)]),(4,.row 3 [iI (-1)]),(5,.row 4 [.bool false]),(6,.row 4 [.bool false]),(7,.row 83 [lns L,ints D,ints Q,iI k])],8⟩ ([.b (ixB j Q.n)]) (aD (by first | assumption | omega | (simp_all; done) | (simp_all; omega)) aN) ?_
 by_cases h2:(Q.f (Int.toNat j)) < 0
 ·refine gb 15 true (decide ((Q.f (Int.toNat j)) < 0)) (decide_eq_true h2) ?_
  refine g0 pcs_ok 12 [] (.go [cN 906,cN 227,.b 1]) ⟨[],[(0,.row 83 [lns L,ints D,ints Q,iI k]),(1,.row 32 (infC u)),(2,.row 34 [iI f,iI k]),(3,.row 3 [iI (-1)]),(4,.row 3 [iI (-1)]),(5,.row 4 [.bool false]),(6,.row 4 [.bool false])],8⟩ ([]) aN ?_
  refine go_ret rfl ?_
  refine rt_loop ?_
  refine rf ⟨[],[(0,.row 83 [lns L,ints D,ints Q,iI k]),(1,.row 32 (infC u)),(2,.row 34 [iI f,iI k]),(3,.row 3 [iI (-1)]),(4,.row 3 [iI (-1)]),(5,.row 4 [.bool false]),(6,.row 4 [.bool false])],7⟩ [] (cvR hE [0,1,2,3,4,5,6]) ?_
  exact .inl ⟨by rw [← hR1.1]; exact up_stop (by omega),rfl,rfl,rfl⟩
 ·refine gb 15 false (decide ((Q.f (Int.toNat j)) < 0)) (decide_eq_false h2) ?_
  refine g0 pcs_ok 6 [] (.op 452 8 [cN 453,cN 227,.b 1]) ⟨[(1,.func (.func 29) [] [.ptr 0 0,.ptr 1 0,.ptr 2 0,.ptr 3 0,.ptr 4 0,.ptr 5 0,.ptr 6 0]),(2,.ptr 7 0),(5,iI (Q.f (Int.toNat j))),(20,.bool (decide ((Q.f (Int.toNat j)) ≥ j)))],[(0,.row 83 [lns L,ints D,ints Q,iI k]),(1,.row 32 (infC u)),(2,.row 34 [iI f,iI k]),(3,.row 3 [iI (-1)]),(4,.row 3 [iI (-1)]),(5,.row 4 [.bool false]),(6,.row 4 [.bool false]),(7,.row 83 [lns L,ints D,ints Q,iI k])],8⟩ ([]) aN ?_
  by_cases h3:(Q.f (Int.toNat j)) ≥ j
  ·refine gb 20 true (decide ((Q.f (Int.toNat j)) ≥ j)) (decide_eq_true h3) ?_
   refine g0 pcs_ok 7 [] (.go [cN 906,cN 227,.b 1]) ⟨[],[(0,.row 83 [lns L,ints D,ints Q,iI k]),(1,.row 32 (infC u)),(2,.row 34 [iI f,iI k]),(3,.row 3 [iI (-1)]),(4,.row 3 [iI (-1)]),(5,.row 4 [.bool false]),(6,.row 4 [.bool false])],8⟩ ([]) aN ?_
   refine go_ret rfl ?_
   refine rt_loop ?_
   refine rf ⟨[],[(0,.row 83 [lns L,ints D,ints Q,iI k]),(1,.row 32 (infC u)),(2,.row 34 [iI f,iI k]),(3,.row 3 [iI (-1)]),(4,.row 3 [iI (-1)]),(5,.row 4 [.bool false]),(6,.row 4 [.bool false])],7⟩ [] (cvR hE [0,1,2,3,4,5,6]) ?_
   exact .inl ⟨by rw [← hR1.1]; exact up_stop (by omega),rfl,rfl,rfl⟩
  ·refine gb 20 false (decide ((Q.f (Int.toNat j)) ≥ j)) (decide_eq_false h3) ?_
   refine g0 pcs_ok 3 [] (.op 452 10 [cN 453,cN 227,.b 1]) ⟨[(1,.func (.func 29) [] [.ptr 0 0,.ptr 1 0,.ptr 2 0,.ptr 3 0,.ptr 4 0,.ptr 5 0,.ptr 6 0]),(2,.ptr 7 0),(5,iI (Q.f (Int.toNat j))),(20,.bool false),(21,.func (.func 29) [] [.ptr 0 0,.ptr 1 0,.ptr 2 0,.ptr 3 0,.ptr 4 0,.ptr 5 0,.ptr 6 0]),(22,iI (Q.f (Int.toNat j)))],[(0,.row 83 [lns L,ints D,ints Q,iI k]),(1,.row 32 (infC u)),(2,.row 34 [iI f,iI k]),(3,.row 3 [iI (-1)]),(4,.row 3 [iI (-1)]),(5,.row 4 [.bool false]),(6,.row 4 [.bool false]),(7,.row 83 [lns L,ints D,ints Q,iI k])],8⟩ ([]) aN ?_
   have hc9:0≤(Q.f (Int.toNat j))∧(Q.f (Int.toNat j)) < L.n:=by omega
   have hcc:(opF L (Q.f (Int.toNat j)) = 39∧opF L (D.f (Int.toNat (Q.f (Int.toNat j)))) = 40)∨(opF L (Q.f (Int.toNat j)) = 39∧¬ opF L (D.f (Int.toNat (Q.f (Int.toNat j)))) = 40)∨(opF L (Q.f (Int.toNat j)) = 40∧opF L (D.f (Int.toNat (Q.f (Int.toNat j)))) = 41)∨(¬ opF L (Q.f (Int.toNat j)) = 39∧¬ (opF L (Q.f (Int.toNat j)) = 40∧opF L (D.f (Int.toNat (Q.f (Int.toNat j)))) = 41)):=by omega
   rcases hcc with hk | hk | hk | hk
   ·have hz:=0
    refine gc (d:=some 23) [0,1,2,3,4,5,6] (catA_ctr L D Q k f u hI (Q.f (Int.toNat j)) hn hD (by omega) (hd _) hk) ?_
    rintro _ _ _ _ ⟨⟨⟩,rfl,rfl⟩
    refine g0 pcs_ok 4 [] (.go [cN 906,cN 227,.b 1]) ⟨[],[(0,.row 83 [lns L,ints D,ints Q,iI k]),(1,.row 32 (infC u)),(2,.row 34 [iI f,iI k]),(3,.row 3 [iI ((D.f (Int.toNat (Q.f (Int.toNat j)))) + 1)]),(4,.row 3 [iI (slotF u f ((L.f (Int.toNat (D.f (Int.toNat (Q.f (Int.toNat j)))))).a))]),(5,.row 4 [.bool true]),(6,.row 4 [.bool false])],8⟩ ([]) aN ?_
    refine go_ret rfl ?_
    refine rt_loop ?_
    refine rf ⟨[],[(0,.row 83 [lns L,ints D,ints Q,iI k]),(1,.row 32 (infC u)),(2,.row 34 [iI f,iI k]),(3,.row 3 [iI ((D.f (Int.toNat (Q.f (Int.toNat j)))) + 1)]),(4,.row 3 [iI (slotF u f ((L.f (Int.toNat (D.f (Int.toNat (Q.f (Int.toNat j)))))).a))]),(5,.row 4 [.bool true]),(6,.row 4 [.bool false])],7⟩ [] (cvR hE [0,1,2,3,4,5,6]) ?_
    exact .inr (.inl ⟨_,by rw [← hR1.1]; exact up_hit (by omega) (by simp [catH,catA,catC]; omega),decide_eq_true hk,rfl,rfl,rfl⟩)
   ·have hz:=0
    refine gc (d:=some 23) [0,1,2,3,4,5,6] (catC1_ctr L D Q k f u hI (Q.f (Int.toNat j)) hn hD (by omega) (hd _) hk) ?_
    rintro _ _ _ _ ⟨⟨⟩,rfl,rfl⟩
    refine g0 pcs_ok 4 [] (.go [cN 906,cN 227,.b 1]) ⟨[],[(0,.row 83 [lns L,ints D,ints Q,iI k]),(1,.row 32 (infC u)),(2,.row 34 [iI f,iI k]),(3,.row 3 [iI ((D.f (Int.toNat (Q.f (Int.toNat j)))) + 1)]),(4,.row 3 [iI (-1)]),(5,.row 4 [.bool true]),(6,.row 4 [.bool true])],8⟩ ([]) aN ?_
    refine go_ret rfl ?_
    refine rt_loop ?_
    refine rf ⟨[],[(0,.row 83 [lns L,ints D,ints Q,iI k]),(1,.row 32 (infC u)),(2,.row 34 [iI f,iI k]),(3,.row 3 [iI ((D.f (Int.toNat (Q.f (Int.toNat j)))) + 1)]),(4,.row 3 [iI (-1)]),(5,.row 4 [.bool true]),(6,.row 4 [.bool true])],7⟩ [] (cvR hE [0,1,2,3,4,5,6]) ?_
    exact .inr (.inr ⟨_,by rw [← hR1.1]; exact up_hit (by omega) (by simp [catH,catA,catC]; omega),decide_eq_false (by omega),rfl,rfl,rfl⟩)
   ·have hz:=0
    refine gc (d:=some 23) [0,1,2,3,4,5,6] (catC2_ctr L D Q k f u hI (Q.f (Int.toNat j)) hn hD (by omega) (hd _) hk) ?_
    rintro _ _ _ _ ⟨⟨⟩,rfl,rfl⟩
    refine g0 pcs_ok 4 [] (.go [cN 906,cN 227,.b 1]) ⟨[],[(0,.row 83 [lns L,ints D,ints Q,iI k]),(1,.row 32 (infC u)),(2,.row 34 [iI f,iI k]),(3,.row 3 [iI ((D.f (Int.toNat (Q.f (Int.toNat j)))) + 1)]),(4,.row 3 [iI (-1)]),(5,.row 4 [.bool true]),(6,.row 4 [.bool true])],8⟩ ([]) aN ?_
    refine go_ret rfl ?_
    refine rt_loop ?_
    refine rf ⟨[],[(0,.row 83 [lns L,ints D,ints Q,iI k]),(1,.row 32 (infC u)),(2,.row 34 [iI f,iI k]),(3,.row 3 [iI ((D.f (Int.toNat (Q.f (Int.toNat j)))) + 1)]),(4,.row 3 [iI (-1)]),(5,.row 4 [.bool true]),(6,.row 4 [.bool true])],7⟩ [] (cvR hE [0,1,2,3,4,5,6]) ?_
    exact .inr (.inr ⟨_,by rw [← hR1.1]; exact up_hit (by omega) (by simp [catH,catA,catC]; omega),decide_eq_false (by omega),rfl,rfl,rfl⟩)
   ·have hz:=0
    refine gc (d:=some 23) [0,1,2,3,4,5,6] (catN_ctr L D Q k f u hI (Q.f (Int.toNat j)) hn hD (by omega) (hd _) hk) ?_
    rintro _ _ _ _ ⟨⟨⟩,rfl,rfl⟩
    refine g0 pcs_ok 10 [] (.go []) ⟨[(1,.func (.func 29) [] [.ptr 0 0,.ptr 1 0,.ptr 2 0,.ptr 3 0,.ptr 4 0,.ptr 5 0,.ptr 6 0]),(2,.ptr 7 0),(4,iI (Q.f (Int.toNat j)))],[(0,.row 83 [lns L,ints D,ints Q,iI k]),(1,.row 32 (infC u)),(2,.row 34 [iI f,iI k]),(3,.row 3 [iI (-1)]),(4,.row 3 [iI (-1)]),(5,.row 4 [.bool false]),(6,.row 4 [.bool false]),(7,.row 83 [lns L,ints D,ints Q,iI k])],8⟩ ([]) aN ?_
    refine go_again ((Q.f (Int.toNat j))) (by omega) (by exact ⟨by rw [← hR1.1]; exact (up_go (by omega) (by simp [catH,catA,catC]; omega)).symm,by omega,by omega⟩) (cvR hE [0,1,2,3,4,5,6,7])
structure Cat where
 t:Int
 s:Int
 fi:Bool
 ok:Bool
def catS (L:Arr Ln) (D Q:Arr Int) (k f:Int) (u:Inf):Cat:=match upF Q (catH L D) k with | none=>⟨-1,-1,false,false⟩ | some c=>if catA L D c = true then ⟨D.f c.toNat + 1,slotF u f (L.f (D.f c.toNat).toNat).a,false,true⟩ else ⟨D.f c.toNat + 1,-1,true,true⟩
def catF (p:Pg) (u:Inf) (f k:Int):Cat:=if spB p u f k = true then catS (p.funcs.f (Int.toNat f)).lines (u.ends.f f.toNat) (u.parent.f f.toNat) k f u else ⟨-1,-1,false,false⟩
theorem ccatch_ctr (p:Pg) (u:Inf) (hI:InfB p u) (f k:Int):Ctr Tryd.prog 12 [pgA p,infA u,.agg [.int .i64 f,.int .i64 k]] [] 0 (fun r hp1 n1=>r = .ret (.tuple [.int .i64 (catF p u f k).t,.int .i64 (catF p u f k).s,.bool (catF p u f k).fi,.bool (catF p u f k).ok])):=by
 have hIe:=hI.e (Int.toNat f) (Int.toNat k)
 have hIl:=hI.ln (Int.toNat f)
 have hpc:=(pcOr_ok (pe_op_ok ((p.funcs.f (Int.toNat f)).lines) (u.ends.f (Int.toNat f)) (u.parent.f (Int.toNat f))) pc0_ok)
 refine ctr_body Tryd.func12 rfl (by kernel_rfl) Tryd.ntmps12 rfl rfl fun E hE=>?_
 refine g0 hpc 20 [] (.op 14 3 [cN 15]) ⟨[(4,.ptr 1 0),(5,.ptr 2 0),(6,.ptr 3 0),(7,.ptr 4 0),(8,.ptr 5 0),(9,.ptr 6 0),(13,pgA p),(14,.agg (infC u)),(15,.agg [iI f,iI k])],[(1,.row 32 (infC u)),(2,.row 34 [iI f,iI k]),(3,.row 3 [iI (-1)]),(4,.row 3 [iI (-1)]),(5,.row 4 [.bool false]),(6,.row 4 [.bool false])],7⟩ ([.b true,.b true]) (aT (aT aN)) ?_
 refine gc (d:=some 16) [] (spotted_ctr p u f k) ?_
 rintro _ _ _ _ (⟨hin,⟨⟩,rfl,rfl⟩ | ⟨hin,⟨⟩,rfl,rfl⟩)
 ·skip
  refine g0 hpc 15 [] (.go [cN 122,cN 31]) ⟨[(6,.ptr 3 0),(7,.ptr 4 0),(8,.ptr 5 0),(9,.ptr 6 0)],[(3,.row 3 [iI (-1)]),(4,.row 3 [iI (-1)]),(5,.row 4 [.bool false]),(6,.row 4 [.bool false])],9⟩ ([.b true]) (aT aN) ?_
  refine go_ret rfl ?_
  refine rfC ⟨[(6,.ptr 0 0),(7,.ptr 1 0),(8,.ptr 2 0),(9,.ptr 3 0)],[(0,.row 3 [iI (-1)]),(1,.row 3 [iI (-1)]),(2,.row 4 [.bool false]),(3,.row 4 [.bool false])],4⟩ [] [iI (-1),iI (-1),.bool false,.bool false] (cvR hE [3,4,5,6]) ?_
  have hv:(⟨(-1),(-1),false,false⟩:Cat) = catF p u f k:=by first | (have hsp:spB p u f k = false:=by rw [spB,hin,Bool.false_and]); simp [catF,hsp]; done | (rw [catF,if_pos hsp,catS,hup]; done) | (rw [catF,if_pos hsp,catS,hup]; simp [hca]; done) | (simp [catF,hsp]; done)
  exact congrArg (fun x:Cat=>Ret.ret (.tuple [.int .i64 x.t,.int .i64 x.s,.bool x.fi,.bool x.ok])) hv
 ·skip
  refine g0 hpc 14 [] (.go [cN 61,cN 31]) ⟨[(4,.ptr 1 0),(5,.ptr 2 0),(6,.ptr 3 0),(7,.ptr 4 0),(8,.ptr 5 0),(9,.ptr 6 0),(10,.ptr 8 0),(20,.bool (!(okB p u f k)))],[(1,.row 32 (infC u)),(2,.row 34 [iI f,iI k]),(3,.row 3 [iI (-1)]),(4,.row 3 [iI (-1)]),(5,.row 4 [.bool false]),(6,.row 4 [.bool false]),(8,.row 83 [lns ((p.funcs.f (Int.toNat f)).lines),ints (u.ends.f (Int.toNat f)),ints (u.parent.f (Int.toNat f)),iI k])],9⟩ ([.b true]) (aT aN) ?_
  rcases Bool.eq_false_or_eq_true (!(okB p u f k)) with h1 | h1
  ·refine gb 20 true (!(okB p u f k)) (h1) ?_
   have hsp:spB p u f k = false:=by rw [spB,show okB p u f k = false by simpa using h1,Bool.and_false]
   refine g0 hpc 1 [] (.go [cN 122,cN 31]) ⟨[(6,.ptr 3 0),(7,.ptr 4 0),(8,.ptr 5 0),(9,.ptr 6 0)],[(3,.row 3 [iI (-1)]),(4,.row 3 [iI (-1)]),(5,.row 4 [.bool false]),(6,.row 4 [.bool false])],9⟩ ([]) aN ?_
   refine go_ret rfl ?_
   refine rfC ⟨[(6,.ptr 0 0),(7,.ptr 1 0),(8,.ptr 2 0),(9,.ptr 3 0)],[(0,.row 3 [iI (-1)]),(1,.row 3 [iI (-1)]),(2,.row 4 [.bool false]),(3,.row 4 [.bool false])],4⟩ [] [iI (-1),iI (-1),.bool false,.bool false] (cvR hE [3,4,5,6]) ?_
   have hv:(⟨(-1),(-1),false,false⟩:Cat) = catF p u f k:=by first | (have hsp:spB p u f k = false:=by rw [spB,hin,Bool.false_and]); simp [catF,hsp]; done | (rw [catF,if_pos hsp,catS,hup]; done) | (rw [catF,if_pos hsp,catS,hup]; simp [hca]; done) | (simp [catF,hsp]; done)
   exact congrArg (fun x:Cat=>Ret.ret (.tuple [.int .i64 x.t,.int .i64 x.s,.bool x.fi,.bool x.ok])) hv
  ·refine gb 20 false (!(okB p u f k)) (h1) ?_
   have h0k:okB p u f k = true:=(by simpa using h1); have hsp:spB p u f k = true:=(by rw [spB,hin,h0k]; rfl); have hok:=of_decide_eq_true h0k
   refine g0 hpc 6 [] (.op 62 2 [cN 63]) ⟨[(6,.ptr 3 0),(7,.ptr 4 0),(8,.ptr 5 0),(9,.ptr 6 0),(21,.agg [lns ((p.funcs.f (Int.toNat f)).lines),ints (u.ends.f (Int.toNat f)),ints (u.parent.f (Int.toNat f)),iI k]),(22,.func (.func 29) [] [.ptr 8 0,.ptr 1 0,.ptr 2 0,.ptr 3 0,.ptr 4 0,.ptr 6 0,.ptr 5 0])],[(1,.row 32 (infC u)),(2,.row 34 [iI f,iI k]),(3,.row 3 [iI (-1)]),(4,.row 3 [iI (-1)]),(5,.row 4 [.bool false]),(6,.row 4 [.bool false]),(8,.row 83 [lns ((p.funcs.f (Int.toNat f)).lines),ints (u.ends.f (Int.toNat f)),ints (u.parent.f (Int.toNat f)),iI k])],9⟩ ([]) aN ?_
   refine gc (d:=some 23) [8,1,2,3,4,6,5] (around_catch_ctr ((p.funcs.f (Int.toNat f)).lines) (u.ends.f (Int.toNat f)) (u.parent.f (Int.toNat f)) k f u hI.s (by omega) (by omega) (by omega) (fun c=>hI.e _ _) (by omega)) ?_
   rintro _ _ _ _ (⟨hup,⟨⟩,rfl,rfl⟩ | ⟨c,hup,hca,⟨⟩,rfl,rfl⟩ | ⟨c,hup,hca,⟨⟩,rfl,rfl⟩)
   ·skip
    refine g0 hpc 2 [] (.go [cN 63]) ⟨[(6,.ptr 3 0),(7,.ptr 4 0),(8,.ptr 5 0),(9,.ptr 6 0)],[(3,.row 3 [iI (-1)]),(4,.row 3 [iI (-1)]),(5,.row 4 [.bool false]),(6,.row 4 [.bool false])],9⟩ ([]) aN ?_
    refine go_ret rfl ?_
    refine rfC ⟨[(6,.ptr 0 0),(7,.ptr 1 0),(8,.ptr 2 0),(9,.ptr 3 0)],[(0,.row 3 [iI (-1)]),(1,.row 3 [iI (-1)]),(2,.row 4 [.bool false]),(3,.row 4 [.bool false])],4⟩ [] [iI (-1),iI (-1),.bool false,.bool false] (cvR hE [3,4,5,6]) ?_
    have hv:(⟨(-1),(-1),false,false⟩:Cat) = catF p u f k:=by first | (have hsp:spB p u f k = false:=by rw [spB,hin,Bool.false_and]); simp [catF,hsp]; done | (rw [catF,if_pos hsp,catS,hup]; done) | (rw [catF,if_pos hsp,catS,hup]; simp [hca]; done) | (simp [catF,hsp]; done)
    exact congrArg (fun x:Cat=>Ret.ret (.tuple [.int .i64 x.t,.int .i64 x.s,.bool x.fi,.bool x.ok])) hv
   ·skip
    refine g0 hpc 2 [] (.go [cN 63]) ⟨[(6,.ptr 3 0),(7,.ptr 4 0),(8,.ptr 5 0),(9,.ptr 6 0)],[(3,.row 3 [iI (((u.ends.f (Int.toNat f)).f (Int.toNat c)) + 1)]),(4,.row 3 [iI (slotF u f (((p.funcs.f (Int.toNat f)).lines.f (Int.toNat ((u.ends.f (Int.toNat f)).f (Int.toNat c)))).a))]),(5,.row 4 [.bool false]),(6,.row 4 [.bool true])],9⟩ ([]) aN ?_
    refine go_ret rfl ?_
    refine rfC ⟨[(6,.ptr 0 0),(7,.ptr 1 0),(8,.ptr 2 0),(9,.ptr 3 0)],[(0,.row 3 [iI (((u.ends.f (Int.toNat f)).f (Int.toNat c)) + 1)]),(1,.row 3 [iI (slotF u f (((p.funcs.f (Int.toNat f)).lines.f (Int.toNat ((u.ends.f (Int.toNat f)).f (Int.toNat c)))).a))]),(2,.row 4 [.bool false]),(3,.row 4 [.bool true])],4⟩ [] [iI (((u.ends.f (Int.toNat f)).f (Int.toNat c)) + 1),iI (slotF u f (((p.funcs.f (Int.toNat f)).lines.f (Int.toNat ((u.ends.f (Int.toNat f)).f (Int.toNat c)))).a)),.bool false,.bool true] (cvR hE [3,4,5,6]) ?_
    have hv:(⟨(((u.ends.f (Int.toNat f)).f (Int.toNat c)) + 1),(slotF u f (((p.funcs.f (Int.toNat f)).lines.f (Int.toNat ((u.ends.f (Int.toNat f)).f (Int.toNat c)))).a)),false,true⟩:Cat) = catF p u f k:=by first | (have hsp:spB p u f k = false:=by rw [spB,hin,Bool.false_and]); simp [catF,hsp]; done | (rw [catF,if_pos hsp,catS,hup]; done) | (rw [catF,if_pos hsp,catS,hup]; simp [hca]; done) | (simp [catF,hsp]; done)
    exact congrArg (fun x:Cat=>Ret.ret (.tuple [.int .i64 x.t,.int .i64 x.s,.bool x.fi,.bool x.ok])) hv
   ·skip
    refine g0 hpc 2 [] (.go [cN 63]) ⟨[(6,.ptr 3 0),(7,.ptr 4 0),(8,.ptr 5 0),(9,.ptr 6 0)],[(3,.row 3 [iI (((u.ends.f (Int.toNat f)).f (Int.toNat c)) + 1)]),(4,.row 3 [iI (-1)]),(5,.row 4 [.bool true]),(6,.row 4 [.bool true])],9⟩ ([]) aN ?_
    refine go_ret rfl ?_
    refine rfC ⟨[(6,.ptr 0 0),(7,.ptr 1 0),(8,.ptr 2 0),(9,.ptr 3 0)],[(0,.row 3 [iI (((u.ends.f (Int.toNat f)).f (Int.toNat c)) + 1)]),(1,.row 3 [iI (-1)]),(2,.row 4 [.bool true]),(3,.row 4 [.bool true])],4⟩ [] [iI (((u.ends.f (Int.toNat f)).f (Int.toNat c)) + 1),iI (-1),.bool true,.bool true] (cvR hE [3,4,5,6]) ?_
    have hv:(⟨(((u.ends.f (Int.toNat f)).f (Int.toNat c)) + 1),(-1),true,true⟩:Cat) = catF p u f k:=by first | (have hsp:spB p u f k = false:=by rw [spB,hin,Bool.false_and]); simp [catF,hsp]; done | (rw [catF,if_pos hsp,catS,hup]; done) | (rw [catF,if_pos hsp,catS,hup]; simp [hca]; done) | (simp [catF,hsp]; done)
    exact congrArg (fun x:Cat=>Ret.ret (.tuple [.int .i64 x.t,.int .i64 x.s,.bool x.fi,.bool x.ok])) hv
def h_catch (p:Pg) (u:Inf) (args:List AV):Option (AV × List Cnd):=match args with | [v,w,.agg [.int .i64 f,.int .i64 k]]=>some (.tuple [.int .i64 (catF p u f k).t,.int .i64 (catF p u f k).s,.bool (catF p u f k).fi,.bool (catF p u f k).ok],[.p (v = pgA p),.p (w = infA u),.p (InfB p u)]) | _=>none
theorem pe_catch_ok (p:Pg) (u:Inf):PCOK Tryd.prog (pcF 12 (h_catch p u)):=pcF_ok fun args v c h hc=>by
 unfold h_catch at h
 split at h
 ·simp only [Option.some.injEq,Prod.mk.injEq] at h
  obtain ⟨rfl,rfl⟩:=h
  obtain ⟨rfl,rfl,hb,_⟩:=hc
  exact ⟨rfl,Ctr.pure rfl (ccatch_ctr p u hb _ _) rfl⟩
 ·simp at h
theorem fina_ctr (L:Arr Ln) (D Q:Arr Int) (k c:Int) (hn:L.n < 1000) (hD:D.n = L.n) (hc:0≤c∧c < L.n) (hd:∀ c:Int,-1000≤D.f (Int.toNat c)∧D.f (Int.toNat c)≤1000) (hk:¬ opF L c = 39∧¬ opF L c = 40):Ctr Tryd.prog 30 [iI c,.ptr 0 0,.ptr 1 0,.ptr 2 0] [(0,.row 83 [lns L,ints D,ints Q,iI k]),(1,.row 3 [iI (-1)]),(2,.row 4 [.bool false])] 3 (fun r hp1 n1=>(finH L D c = true∧r = .ret (.bool true)∧hp1 = [(0,.row 83 [lns L,ints D,ints Q,iI k]),(1,.row 3 [iI (finE L D c + 1)]),(2,.row 4 [.bool true])]∧n1 = 3)∨(finH L D c = false∧r = .ret (.bool false)∧hp1 = [(0,.row 83 [lns L,ints D,ints Q,iI k]),(1,.row 3 [iI (-1)]),(2,.row 4 [.bool false])]∧n1 = 3)):=by
 have hop:=@opF_in L (D.f (Int.toNat c))
 have hd2:=hd (D.f (Int.toNat c))
 have hd1:=hd c
 have hpc:=(pcOr_ok (pe_op_ok L D Q) pc0_ok)
 refine ctr_body Tryd.func30 rfl (by kernel_rfl) Tryd.ntmps30 rfl rfl fun E hE=>?_
 refine g0 hpc 21 [] (.op 28 5 [cN 29,cN 15]) ⟨[(0,iI c),(1,.ptr 0 0),(2,.ptr 1 0),(3,.ptr 2 0),(6,iI (D.f (Int.toNat c))),(16,.bool (decide ((opF L c) = 39)))],[(0,.row 83 [lns L,ints D,ints Q,iI k]),(1,.row 3 [iI (-1)]),(2,.row 4 [.bool false])],3⟩ ([.p (∃ n,(AV.agg [lns L,ints D,ints Q,iI k]) = .agg [lns L,ints D,ints Q,.int .i64 n]),.b (ixB c D.n)]) (aP (by exact ⟨_,rfl⟩) (aD (by first | assumption | omega | (simp_all; done) | (simp_all; omega)) aN)) ?_
 refine gb 16 false (decide ((opF L c) = 39)) (decide_eq_false hk.1) ?_
 refine g0 hpc 17 [] (.op 60 5 [cN 61,cN 31]) ⟨[(0,iI c),(1,.ptr 0 0),(2,.ptr 1 0),(3,.ptr 2 0),(6,iI (D.f (Int.toNat c))),(31,.bool (decide ((opF L c) = 39)))],[(0,.row 83 [lns L,ints D,ints Q,iI k]),(1,.row 3 [iI (-1)]),(2,.row 4 [.bool false])],3⟩ ([.p (∃ n,(AV.agg [lns L,ints D,ints Q,iI k]) = .agg [lns L,ints D,ints Q,.int .i64 n])]) (aP (by exact ⟨_,rfl⟩) aN) ?_
 refine gb 31 false (decide ((opF L c) = 39)) (decide_eq_false hk.1) ?_
 refine g0 hpc 7 [] (.op 60 11 [cN 61,cN 31]) ⟨[(1,.ptr 0 0),(2,.ptr 1 0),(3,.ptr 2 0),(6,iI (D.f (Int.toNat c))),(37,.bool (decide ((opF L c) = 40)))],[(0,.row 83 [lns L,ints D,ints Q,iI k]),(1,.row 3 [iI (-1)]),(2,.row 4 [.bool false])],3⟩ ([.p (∃ n,(AV.agg [lns L,ints D,ints Q,iI k]) = .agg [lns L,ints D,ints Q,.int .i64 n])]) (aP (by exact ⟨_,rfl⟩) aN) ?_
 refine gb 37 false (decide ((opF L c) = 40)) (decide_eq_false hk.2) ?_
 refine g0 hpc 14 [] (.go [cN 63]) ⟨[(5,.bool false)],[(0,.row 83 [lns L,ints D,ints Q,iI k]),(1,.row 3 [iI (-1)]),(2,.row 4 [.bool false])],3⟩ ([]) aN ?_
 refine go_ret rfl ?_
 refine rf ⟨[(5,.bool false)],[(0,.row 83 [lns L,ints D,ints Q,iI k]),(1,.row 3 [iI (-1)]),(2,.row 4 [.bool false])],3⟩ [.bool false] (cvR hE [0,1,2]) ?_
 exact .inr ⟨decide_eq_false (by omega),rfl,rfl,rfl⟩
theorem finb_ctr (L:Arr Ln) (D Q:Arr Int) (k c:Int) (hn:L.n < 1000) (hD:D.n = L.n) (hc:0≤c∧c < L.n) (hd:∀ c:Int,-1000≤D.f (Int.toNat c)∧D.f (Int.toNat c)≤1000) (hk:opF L c = 39∧opF L (D.f (Int.toNat c)) = 40):Ctr Tryd.prog 30 [iI c,.ptr 0 0,.ptr 1 0,.ptr 2 0] [(0,.row 83 [lns L,ints D,ints Q,iI k]),(1,.row 3 [iI (-1)]),(2,.row 4 [.bool false])] 3 (fun r hp1 n1=>(finH L D c = true∧r = .ret (.bool true)∧hp1 = [(0,.row 83 [lns L,ints D,ints Q,iI k]),(1,.row 3 [iI (finE L D c + 1)]),(2,.row 4 [.bool true])]∧n1 = 3)∨(finH L D c = false∧r = .ret (.bool false)∧hp1 = [(0,.row 83 [lns L,ints D,ints Q,iI k]),(1,.row 3 [iI (-1)]),(2,.row 4 [.bool false])]∧n1 = 3)):=by
 have hop:=@opF_in L (D.f (Int.toNat c))
 have hd2:=hd (D.f (Int.toNat c))
 have hd1:=hd c
 have hfe:finE L D c = D.f (Int.toNat (D.f (Int.toNat c))):=by rw [finE,if_pos hk]
 have hpc:=(pcOr_ok (pe_op_ok L D Q) pc0_ok)
 refine ctr_body Tryd.func30 rfl (by kernel_rfl) Tryd.ntmps30 rfl rfl fun E hE=>?_
 refine g0 hpc 21 [] (.op 28 5 [cN 29,cN 15]) ⟨[(0,iI c),(1,.ptr 0 0),(2,.ptr 1 0),(3,.ptr 2 0),(6,iI (D.f (Int.toNat c))),(16,.bool (decide ((opF L c) = 39)))],[(0,.row 83 [lns L,ints D,ints Q,iI k]),(1,.row 3 [iI (-1)]),(2,.row 4 [.bool false])],3⟩ ([.p (∃ n,(AV.agg [lns L,ints D,ints Q,iI k]) = .agg [lns L,ints D,ints Q,.int .i64 n]),.b (ixB c D.n)]) (aP (by exact ⟨_,rfl⟩) (aD (by first | assumption | omega | (simp_all; done) | (simp_all; omega)) aN)) ?_
 refine gb 16 true (decide ((opF L c) = 39)) (decide_eq_true hk.1) ?_
 refine g0 hpc 7 [] (.go [cN 29,cN 15]) ⟨[(0,iI c),(1,.ptr 0 0),(2,.ptr 1 0),(3,.ptr 2 0),(6,iI (D.f (Int.toNat c))),(21,.bool (decide ((opF L (D.f (Int.toNat c))) = 40)))],[(0,.row 83 [lns L,ints D,ints Q,iI k]),(1,.row 3 [iI (-1)]),(2,.row 4 [.bool false])],3⟩ ([.p (∃ n,(AV.agg [lns L,ints D,ints Q,iI k]) = .agg [lns L,ints D,ints Q,.int .i64 n])]) (aP (by exact ⟨_,rfl⟩) aN) ?_
 refine gb 21 true (decide ((opF L (D.f (Int.toNat c))) = 40)) (decide_eq_true hk.2) ?_
 refine g0 hpc 17 [] (.op 60 5 [cN 61,cN 31]) ⟨[(0,iI c),(1,.ptr 0 0),(2,.ptr 1 0),(3,.ptr 2 0),(6,iI (D.f (Int.toNat (D.f (Int.toNat c))))),(31,.bool (decide ((opF L c) = 39)))],[(0,.row 83 [lns L,ints D,ints Q,iI k]),(1,.row 3 [iI (-1)]),(2,.row 4 [.bool false])],3⟩ ([.p (∃ n,(AV.agg [lns L,ints D,ints Q,iI k]) = .agg [lns L,ints D,ints Q,.int .i64 n]),.b (ixB (D.f (Int.toNat c)) D.n)]) (aP (by exact ⟨_,rfl⟩) (aD (by first | assumption | omega | (simp_all; done) | (simp_all; omega)) aN)) ?_
 refine gb 31 true (decide ((opF L c) = 39)) (decide_eq_true hk.1) ?_
 refine g0 hpc 13 [] (.go [cN 61,cN 31]) ⟨[(2,.ptr 1 0),(3,.ptr 2 0),(6,iI (D.f (Int.toNat (D.f (Int.toNat c))))),(42,.bool (decide ((opF L (D.f (Int.toNat (D.f (Int.toNat c))))) = 41)))],[(0,.row 83 [lns L,ints D,ints Q,iI k]),(1,.row 3 [iI (-1)]),(2,.row 4 [.bool false])],3⟩ ([.p (∃ n,(AV.agg [lns L,ints D,ints Q,iI k]) = .agg [lns L,ints D,ints Q,.int .i64 n])]) (aP (by exact ⟨_,rfl⟩) aN) ?_
 by_cases h1:(opF L (D.f (Int.toNat (D.f (Int.toNat c))))) = 41
 ·refine gb 42 true (decide ((opF L (D.f (Int.toNat (D.f (Int.toNat c))))) = 41)) (decide_eq_true h1) ?_
  refine g0 hpc 12 [] (.go [cN 63]) ⟨[(5,.bool true)],[(0,.row 83 [lns L,ints D,ints Q,iI k]),(1,.row 3 [iI ((D.f (Int.toNat (D.f (Int.toNat c)))) + 1)]),(2,.row 4 [.bool true])],3⟩ ([.b true,.b true,.b (rng ((D.f (Int.toNat (D.f (Int.toNat c)))) + 1))]) (aT (aT (aR (by omega) (by omega) aN))) ?_
  refine go_ret rfl ?_
  refine rf ⟨[(5,.bool true)],[(0,.row 83 [lns L,ints D,ints Q,iI k]),(1,.row 3 [iI (finE L D c + 1)]),(2,.row 4 [.bool true])],3⟩ [.bool true] (cvM hE [0,1,2] toFR ⟨rR,rL (.row 3 [iI ((D.f (Int.toNat (D.f (Int.toNat c)))) + 1)]) (LeB.row _ ⟨Le.of_eq (congrArg (AV.int .i64) (by rw [hfe])),trivial⟩),toHR⟩) ?_
  exact .inl ⟨decide_eq_true (by rw [hfe]; omega),rfl,rfl,rfl⟩
 ·refine gb 42 false (decide ((opF L (D.f (Int.toNat (D.f (Int.toNat c))))) = 41)) (decide_eq_false h1) ?_
  refine g0 hpc 7 [] (.go [cN 63]) ⟨[(5,.bool false)],[(0,.row 83 [lns L,ints D,ints Q,iI k]),(1,.row 3 [iI (-1)]),(2,.row 4 [.bool false])],3⟩ ([]) aN ?_
  refine go_ret rfl ?_
  refine rf ⟨[(5,.bool false)],[(0,.row 83 [lns L,ints D,ints Q,iI k]),(1,.row 3 [iI (-1)]),(2,.row 4 [.bool false])],3⟩ [.bool false] (cvR hE [0,1,2]) ?_
  exact .inr ⟨decide_eq_false (by rw [hfe]; omega),rfl,rfl,rfl⟩
theorem finc_ctr (L:Arr Ln) (D Q:Arr Int) (k c:Int) (hn:L.n < 1000) (hD:D.n = L.n) (hc:0≤c∧c < L.n) (hd:∀ c:Int,-1000≤D.f (Int.toNat c)∧D.f (Int.toNat c)≤1000) (hk:opF L c = 39∧¬ opF L (D.f (Int.toNat c)) = 40):Ctr Tryd.prog 30 [iI c,.ptr 0 0,.ptr 1 0,.ptr 2 0] [(0,.row 83 [lns L,ints D,ints Q,iI k]),(1,.row 3 [iI (-1)]),(2,.row 4 [.bool false])] 3 (fun r hp1 n1=>(finH L D c = true∧r = .ret (.bool true)∧hp1 = [(0,.row 83 [lns L,ints D,ints Q,iI k]),(1,.row 3 [iI (finE L D c + 1)]),(2,.row 4 [.bool true])]∧n1 = 3)∨(finH L D c = false∧r = .ret (.bool false)∧hp1 = [(0,.row 83 [lns L,ints D,ints Q,iI k]),(1,.row 3 [iI (-1)]),(2,.row 4 [.bool false])]∧n1 = 3)):=by
 have hop:=@opF_in L (D.f (Int.toNat c))
 have hd2:=hd (D.f (Int.toNat c))
 have hd1:=hd c
 have hfe:finE L D c = D.f (Int.toNat c):=by rw [finE,if_neg (by omega)]
 have hpc:=(pcOr_ok (pe_op_ok L D Q) pc0_ok)
 refine ctr_body Tryd.func30 rfl (by kernel_rfl) Tryd.ntmps30 rfl rfl fun E hE=>?_
 refine g0 hpc 21 [] (.op 28 5 [cN 29,cN 15]) ⟨[(0,iI c),(1,.ptr 0 0),(2,.ptr 1 0),(3,.ptr 2 0),(6,iI (D.f (Int.toNat c))),(16,.bool (decide ((opF L c) = 39)))],[(0,.row 83 [lns L,ints D,ints Q,iI k]),(1,.row 3 [iI (-1)]),(2,.row 4 [.bool false])],3⟩ ([.p (∃ n,(AV.agg [lns L,ints D,ints Q,iI k]) = .agg [lns L,ints D,ints Q,.int .i64 n]),.b (ixB c D.n)]) (aP (by exact ⟨_,rfl⟩) (aD (by first | assumption | omega | (simp_all; done) | (simp_all; omega)) aN)) ?_
 refine gb 16 true (decide ((opF L c) = 39)) (decide_eq_true hk.1) ?_
 refine g0 hpc 7 [] (.go [cN 29,cN 15]) ⟨[(0,iI c),(1,.ptr 0 0),(2,.ptr 1 0),(3,.ptr 2 0),(6,iI (D.f (Int.toNat c))),(21,.bool (decide ((opF L (D.f (Int.toNat c))) = 40)))],[(0,.row 83 [lns L,ints D,ints Q,iI k]),(1,.row 3 [iI (-1)]),(2,.row 4 [.bool false])],3⟩ ([.p (∃ n,(AV.agg [lns L,ints D,ints Q,iI k]) = .agg [lns L,ints D,ints Q,.int .i64 n])]) (aP (by exact ⟨_,rfl⟩) aN) ?_
 refine gb 21 false (decide ((opF L (D.f (Int.toNat c))) = 40)) (decide_eq_false hk.2) ?_
 refine g0 hpc 10 [] (.op 60 5 [cN 61,cN 31]) ⟨[(0,iI c),(1,.ptr 0 0),(2,.ptr 1 0),(3,.ptr 2 0),(6,iI (D.f (Int.toNat c))),(31,.bool (decide ((opF L c) = 39)))],[(0,.row 83 [lns L,ints D,ints Q,iI k]),(1,.row 3 [iI (-1)]),(2,.row 4 [.bool false])],3⟩ ([.p (∃ n,(AV.agg [lns L,ints D,ints Q,iI k]) = .agg [lns L,ints D,ints Q,.int .i64 n])]) (aP (by exact ⟨_,rfl⟩) aN) ?_
 refine gb 31 true (decide ((opF L c) = 39)) (decide_eq_true hk.1) ?_
 refine g0 hpc 13 [] (.go [cN 61,cN 31]) ⟨[(2,.ptr 1 0),(3,.ptr 2 0),(6,iI (D.f (Int.toNat c))),(42,.bool (decide ((opF L (D.f (Int.toNat c))) = 41)))],[(0,.row 83 [lns L,ints D,ints Q,iI k]),(1,.row 3 [iI (-1)]),(2,.row 4 [.bool false])],3⟩ ([.p (∃ n,(AV.agg [lns L,ints D,ints Q,iI k]) = .agg [lns L,ints D,ints Q,.int .i64 n])]) (aP (by exact ⟨_,rfl⟩) aN) ?_
 by_cases h1:(opF L (D.f (Int.toNat c))) = 41
 ·refine gb 42 true (decide ((opF L (D.f (Int.toNat c))) = 41)) (decide_eq_true h1) ?_
  refine g0 hpc 12 [] (.go [cN 63]) ⟨[(5,.bool true)],[(0,.row 83 [lns L,ints D,ints Q,iI k]),(1,.row 3 [iI ((D.f (Int.toNat c)) + 1)]),(2,.row 4 [.bool true])],3⟩ ([.b true,.b true,.b (rng ((D.f (Int.toNat c)) + 1))]) (aT (aT (aR (by omega) (by omega) aN))) ?_
  refine go_ret rfl ?_
  refine rf ⟨[(5,.bool true)],[(0,.row 83 [lns L,ints D,ints Q,iI k]),(1,.row 3 [iI (finE L D c + 1)]),(2,.row 4 [.bool true])],3⟩ [.bool true] (cvM hE [0,1,2] toFR ⟨rR,rL (.row 3 [iI ((D.f (Int.toNat c)) + 1)]) (LeB.row _ ⟨Le.of_eq (congrArg (AV.int .i64) (by rw [hfe])),trivial⟩),toHR⟩) ?_
  exact .inl ⟨decide_eq_true (by rw [hfe]; omega),rfl,rfl,rfl⟩
 ·refine gb 42 false (decide ((opF L (D.f (Int.toNat c))) = 41)) (decide_eq_false h1) ?_
  refine g0 hpc 7 [] (.go [cN 63]) ⟨[(5,.bool false)],[(0,.row 83 [lns L,ints D,ints Q,iI k]),(1,.row 3 [iI (-1)]),(2,.row 4 [.bool false])],3⟩ ([]) aN ?_
  refine go_ret rfl ?_
  refine rf ⟨[(5,.bool false)],[(0,.row 83 [lns L,ints D,ints Q,iI k]),(1,.row 3 [iI (-1)]),(2,.row 4 [.bool false])],3⟩ [.bool false] (cvR hE [0,1,2]) ?_
  exact .inr ⟨decide_eq_false (by rw [hfe]; omega),rfl,rfl,rfl⟩
theorem find_ctr (L:Arr Ln) (D Q:Arr Int) (k c:Int) (hn:L.n < 1000) (hD:D.n = L.n) (hc:0≤c∧c < L.n) (hd:∀ c:Int,-1000≤D.f (Int.toNat c)∧D.f (Int.toNat c)≤1000) (hk:¬ opF L c = 39∧opF L c = 40):Ctr Tryd.prog 30 [iI c,.ptr 0 0,.ptr 1 0,.ptr 2 0] [(0,.row 83 [lns L,ints D,ints Q,iI k]),(1,.row 3 [iI (-1)]),(2,.row 4 [.bool false])] 3 (fun r hp1 n1=>(finH L D c = true∧r = .ret (.bool true)∧hp1 = [(0,.row 83 [lns L,ints D,ints Q,iI k]),(1,.row 3 [iI (finE L D c + 1)]),(2,.row 4 [.bool true])]∧n1 = 3)∨(finH L D c = false∧r = .ret (.bool false)∧hp1 = [(0,.row 83 [lns L,ints D,ints Q,iI k]),(1,.row 3 [iI (-1)]),(2,.row 4 [.bool false])]∧n1 = 3)):=by
 have hop:=@opF_in L (D.f (Int.toNat c))
 have hd2:=hd (D.f (Int.toNat c))
 have hd1:=hd c
 have hfe:finE L D c = D.f (Int.toNat c):=by rw [finE,if_neg (by omega)]
 have hpc:=(pcOr_ok (pe_op_ok L D Q) pc0_ok)
 refine ctr_body Tryd.func30 rfl (by kernel_rfl) Tryd.ntmps30 rfl rfl fun E hE=>?_
 refine g0 hpc 21 [] (.op 28 5 [cN 29,cN 15]) ⟨[(0,iI c),(1,.ptr 0 0),(2,.ptr 1 0),(3,.ptr 2 0),(6,iI (D.f (Int.toNat c))),(16,.bool (decide ((opF L c) = 39)))],[(0,.row 83 [lns L,ints D,ints Q,iI k]),(1,.row 3 [iI (-1)]),(2,.row 4 [.bool false])],3⟩ ([.p (∃ n,(AV.agg [lns L,ints D,ints Q,iI k]) = .agg [lns L,ints D,ints Q,.int .i64 n]),.b (ixB c D.n)]) (aP (by exact ⟨_,rfl⟩) (aD (by first | assumption | omega | (simp_all; done) | (simp_all; omega)) aN)) ?_
 refine gb 16 false (decide ((opF L c) = 39)) (decide_eq_false hk.1) ?_
 refine g0 hpc 17 [] (.op 60 5 [cN 61,cN 31]) ⟨[(0,iI c),(1,.ptr 0 0),(2,.ptr 1 0),(3,.ptr 2 0),(6,iI (D.f (Int.toNat c))),(31,.bool (decide ((opF L c) = 39)))],[(0,.row 83 [lns L,ints D,ints Q,iI k]),(1,.row 3 [iI (-1)]),(2,.row 4 [.bool false])],3⟩ ([.p (∃ n,(AV.agg [lns L,ints D,ints Q,iI k]) = .agg [lns L,ints D,ints Q,.int .i64 n])]) (aP (by exact ⟨_,rfl⟩) aN) ?_
 refine gb 31 false (decide ((opF L c) = 39)) (decide_eq_false hk.1) ?_
 refine g0 hpc 7 [] (.op 60 11 [cN 61,cN 31]) ⟨[(1,.ptr 0 0),(2,.ptr 1 0),(3,.ptr 2 0),(6,iI (D.f (Int.toNat c))),(37,.bool (decide ((opF L c) = 40)))],[(0,.row 83 [lns L,ints D,ints Q,iI k]),(1,.row 3 [iI (-1)]),(2,.row 4 [.bool false])],3⟩ ([.p (∃ n,(AV.agg [lns L,ints D,ints Q,iI k]) = .agg [lns L,ints D,ints Q,.int .i64 n])]) (aP (by exact ⟨_,rfl⟩) aN) ?_
 refine gb 37 true (decide ((opF L c) = 40)) (decide_eq_true hk.2) ?_
 refine g0 hpc 7 [] (.go [cN 61,cN 31]) ⟨[(2,.ptr 1 0),(3,.ptr 2 0),(6,iI (D.f (Int.toNat c))),(42,.bool (decide ((opF L (D.f (Int.toNat c))) = 41)))],[(0,.row 83 [lns L,ints D,ints Q,iI k]),(1,.row 3 [iI (-1)]),(2,.row 4 [.bool false])],3⟩ ([.p (∃ n,(AV.agg [lns L,ints D,ints Q,iI k]) = .agg [lns L,ints D,ints Q,.int .i64 n])]) (aP (by exact ⟨_,rfl⟩) aN) ?_
 by_cases h1:(opF L (D.f (Int.toNat c))) = 41
 ·refine gb 42 true (decide ((opF L (D.f (Int.toNat c))) = 41)) (decide_eq_true h1) ?_
  refine g0 hpc 12 [] (.go [cN 63]) ⟨[(5,.bool true)],[(0,.row 83 [lns L,ints D,ints Q,iI k]),(1,.row 3 [iI ((D.f (Int.toNat c)) + 1)]),(2,.row 4 [.bool true])],3⟩ ([.b true,.b true,.b (rng ((D.f (Int.toNat c)) + 1))]) (aT (aT (aR (by omega) (by omega) aN))) ?_
  refine go_ret rfl ?_
  refine rf ⟨[(5,.bool true)],[(0,.row 83 [lns L,ints D,ints Q,iI k]),(1,.row 3 [iI (finE L D c + 1)]),(2,.row 4 [.bool true])],3⟩ [.bool true] (cvM hE [0,1,2] toFR ⟨rR,rL (.row 3 [iI ((D.f (Int.toNat c)) + 1)]) (LeB.row _ ⟨Le.of_eq (congrArg (AV.int .i64) (by rw [hfe])),trivial⟩),toHR⟩) ?_
  exact .inl ⟨decide_eq_true (by rw [hfe]; omega),rfl,rfl,rfl⟩
 ·refine gb 42 false (decide ((opF L (D.f (Int.toNat c))) = 41)) (decide_eq_false h1) ?_
  refine g0 hpc 7 [] (.go [cN 63]) ⟨[(5,.bool false)],[(0,.row 83 [lns L,ints D,ints Q,iI k]),(1,.row 3 [iI (-1)]),(2,.row 4 [.bool false])],3⟩ ([]) aN ?_
  refine go_ret rfl ?_
  refine rf ⟨[(5,.bool false)],[(0,.row 83 [lns L,ints D,ints Q,iI k]),(1,.row 3 [iI (-1)]),(2,.row 4 [.bool false])],3⟩ [.bool false] (cvR hE [0,1,2]) ?_
  exact .inr ⟨decide_eq_false (by rw [hfe]; omega),rfl,rfl,rfl⟩
theorem fin_ctr (L:Arr Ln) (D Q:Arr Int) (k c:Int) (hn:L.n < 1000) (hD:D.n = L.n) (hc:0≤c∧c < L.n) (hd:∀ c:Int,-1000≤D.f (Int.toNat c)∧D.f (Int.toNat c)≤1000):Ctr Tryd.prog 30 [iI c,.ptr 0 0,.ptr 1 0,.ptr 2 0] [(0,.row 83 [lns L,ints D,ints Q,iI k]),(1,.row 3 [iI (-1)]),(2,.row 4 [.bool false])] 3 (fun r hp1 n1=>(finH L D c = true∧r = .ret (.bool true)∧hp1 = [(0,.row 83 [lns L,ints D,ints Q,iI k]),(1,.row 3 [iI (finE L D c + 1)]),(2,.row 4 [.bool true])]∧n1 = 3)∨(finH L D c = false∧r = .ret (.bool false)∧hp1 = [(0,.row 83 [lns L,ints D,ints Q,iI k]),(1,.row 3 [iI (-1)]),(2,.row 4 [.bool false])]∧n1 = 3)):=by
 have hcc:(¬ opF L c = 39∧¬ opF L c = 40)∨(opF L c = 39∧opF L (D.f (Int.toNat c)) = 40)∨(opF L c = 39∧¬ opF L (D.f (Int.toNat c)) = 40)∨(¬ opF L c = 39∧opF L c = 40):=by omega
 rcases hcc with hk | hk | hk | hk
 ·exact fina_ctr L D Q k c hn hD hc hd hk
 ·exact finb_ctr L D Q k c hn hD hc hd hk
 ·exact finc_ctr L D Q k c hn hD hc hd hk
 ·exact find_ctr L D Q k c hn hD hc hd hk
theorem around_fin_ctr (L:Arr Ln) (D Q:Arr Int) (k:Int) (hn:L.n < 1000) (hD:D.n = L.n) (hQ:Q.n = L.n) (hd:∀ c:Int,-1000≤D.f (Int.toNat c)∧D.f (Int.toNat c)≤1000) (hk0:0≤k∧k < L.n):Ctr Tryd.prog 28 [.agg [lns L,ints D,ints Q,iI k],.func (.func 30) [] [.ptr 0 0,.ptr 1 0,.ptr 2 0]] [(0,.row 83 [lns L,ints D,ints Q,iI k]),(1,.row 3 [iI (-1)]),(2,.row 4 [.bool false])] 3 (fun r hp1 n1=>(upF Q (finH L D) k = none∧r = .ret (.tuple [])∧hp1 = [(0,.row 83 [lns L,ints D,ints Q,iI k]),(1,.row 3 [iI (-1)]),(2,.row 4 [.bool false])]∧n1 = 3)∨(∃ c,upF Q (finH L D) k = some c∧r = .ret (.tuple [])∧hp1 = [(0,.row 83 [lns L,ints D,ints Q,iI k]),(1,.row 3 [iI (finE L D c + 1)]),(2,.row 4 [.bool true])]∧n1 = 3)):=by
 refine ctr_body Tryd.func28 rfl (by kernel_rfl) Tryd.ntmps28 rfl rfl fun E hE=>?_
 refine g0 pcs_ok 11 [] (.go [cN 14,.b 0]) ⟨[(1,.func (.func 30) [] [.ptr 0 0,.ptr 1 0,.ptr 2 0]),(2,.ptr 3 0),(4,iI k)],[(0,.row 83 [lns L,ints D,ints Q,iI k]),(1,.row 3 [iI (-1)]),(2,.row 4 [.bool false]),(3,.row 83 [lns L,ints D,ints Q,iI k])],4⟩ ([]) aN ?_
 refine go_loop (fun (j:Int)=>⟨[(1,.func (.func 30) [] [.ptr 0 0,.ptr 1 0,.ptr 2 0]),(2,.ptr 3 0),(4,iI j)],[(0,.row 83 [lns L,ints D,ints Q,iI k]),(1,.row 3 [iI (-1)]),(2,.row 4 [.bool false]),(3,.row 83 [lns L,ints D,ints Q,iI k])],4⟩) (fun (j:Int)=>upF Q (finH L D) j = upF Q (finH L D) k∧0≤j∧j < L.n) (fun (j:Int)=>Int.toNat j) (k:Int) rfl (by exact ⟨rfl,hk0⟩) (cvR hE [0,1,2,3]) ?_
 intro j hR10
 have hR1:upF Q (finH L D) j = upF Q (finH L D) k∧0≤j∧j < L.n:=hR10
 refine g0 pcs_ok 16 [] (.op 452 3 [cN 453,cN 227,.b 1]) ⟨[(1,.func (.func 30) [] [.ptr 0 0,.ptr 1 0,.ptr 2 0]),(2,.ptr 3 0),(4,iI j),(5,iI (Q.f (Int.toNat j))),(15,.bool (decide ((Q.f (Int.toNat j)) < 0)))],[(0,.row 83 [lns L,ints D,ints Q,iI k]),(1,.row 3 [iI (-1)]),(2,.row 4 [.bool false]),(3,.row 83 [lns L,ints D,ints Q,iI k])],4⟩ ([.b (ixB j Q.n)]) (aD (by first | assumption | omega | (simp_all; done) | (simp_all; omega)) aN) ?_
 by_cases h2:(Q.f (Int.toNat j)) < 0
 ·refine gb 15 true (decide ((Q.f (Int.toNat j)) < 0)) (decide_eq_true h2) ?_
  refine g0 pcs_ok 12 [] (.go [cN 906,cN 227,.b 1]) ⟨[],[(0,.row 83 [lns L,ints D,ints Q,iI k]),(1,.row 3 [iI (-1)]),(2,.row 4 [.bool false])],4⟩ ([]) aN ?_
  refine go_ret rfl ?_
  refine rt_loop ?_
  refine rf ⟨[],[(0,.row 83 [lns L,ints D,ints Q,iI k]),(1,.row 3 [iI (-1)]),(2,.row 4 [.bool false])],3⟩ [] (cvR hE [0,1,2]) ?_
  exact .inl ⟨by rw [← hR1.1]; exact up_stop (by omega),rfl,rfl,rfl⟩
 ·refine gb 15 false (decide ((Q.f (Int.toNat j)) < 0)) (decide_eq_false h2) ?_
  refine g0 pcs_ok 6 [] (.op 452 8 [cN 453,cN 227,.b 1]) ⟨[(1,.func (.func 30) [] [.ptr 0 0,.ptr 1 0,.ptr 2 0]),(2,.ptr 3 0),(5,iI (Q.f (Int.toNat j))),(20,.bool (decide ((Q.f (Int.toNat j)) ≥ j)))],[(0,.row 83 [lns L,ints D,ints Q,iI k]),(1,.row 3 [iI (-1)]),(2,.row 4 [.bool false]),(3,.row 83 [lns L,ints D,ints Q,iI k])],4⟩ ([]) aN ?_
  by_cases h3:(Q.f (Int.toNat j)) ≥ j
  ·refine gb 20 true (decide ((Q.f (Int.toNat j)) ≥ j)) (decide_eq_true h3) ?_
   refine g0 pcs_ok 7 [] (.go [cN 906,cN 227,.b 1]) ⟨[],[(0,.row 83 [lns L,ints D,ints Q,iI k]),(1,.row 3 [iI (-1)]),(2,.row 4 [.bool false])],4⟩ ([]) aN ?_
   refine go_ret rfl ?_
   refine rt_loop ?_
   refine rf ⟨[],[(0,.row 83 [lns L,ints D,ints Q,iI k]),(1,.row 3 [iI (-1)]),(2,.row 4 [.bool false])],3⟩ [] (cvR hE [0,1,2]) ?_
   exact .inl ⟨by rw [← hR1.1]; exact up_stop (by omega),rfl,rfl,rfl⟩
  ·refine gb 20 false (decide ((Q.f (Int.toNat j)) ≥ j)) (decide_eq_false h3) ?_
   refine g0 pcs_ok 3 [] (.op 452 10 [cN 453,cN 227,.b 1]) ⟨[(1,.func (.func 30) [] [.ptr 0 0,.ptr 1 0,.ptr 2 0]),(2,.ptr 3 0),(5,iI (Q.f (Int.toNat j))),(20,.bool false),(21,.func (.func 30) [] [.ptr 0 0,.ptr 1 0,.ptr 2 0]),(22,iI (Q.f (Int.toNat j)))],[(0,.row 83 [lns L,ints D,ints Q,iI k]),(1,.row 3 [iI (-1)]),(2,.row 4 [.bool false]),(3,.row 83 [lns L,ints D,ints Q,iI k])],4⟩ ([]) aN ?_
   refine gc (d:=some 23) [0,1,2] (fin_ctr L D Q k (Q.f (Int.toNat j)) hn hD (by omega) hd) ?_
   rintro _ _ _ _ (⟨hfh,⟨⟩,rfl,rfl⟩ | ⟨hfh,⟨⟩,rfl,rfl⟩)
   ·skip
    refine g0 pcs_ok 4 [] (.go [cN 906,cN 227,.b 1]) ⟨[],[(0,.row 83 [lns L,ints D,ints Q,iI k]),(1,.row 3 [iI (finE L D (Q.f (Int.toNat j)) + 1)]),(2,.row 4 [.bool true])],4⟩ ([]) aN ?_
    refine go_ret rfl ?_
    refine rt_loop ?_
    refine rf ⟨[],[(0,.row 83 [lns L,ints D,ints Q,iI k]),(1,.row 3 [iI (finE L D (Q.f (Int.toNat j)) + 1)]),(2,.row 4 [.bool true])],3⟩ [] (cvR hE [0,1,2]) ?_
    exact .inr ⟨_,by rw [← hR1.1]; exact up_hit (by omega) hfh,rfl,rfl,rfl⟩
   ·skip
    refine g0 pcs_ok 10 [] (.go []) ⟨[(1,.func (.func 30) [] [.ptr 0 0,.ptr 1 0,.ptr 2 0]),(2,.ptr 3 0),(4,iI (Q.f (Int.toNat j)))],[(0,.row 83 [lns L,ints D,ints Q,iI k]),(1,.row 3 [iI (-1)]),(2,.row 4 [.bool false]),(3,.row 83 [lns L,ints D,ints Q,iI k])],4⟩ ([]) aN ?_
    refine go_again ((Q.f (Int.toNat j))) (by omega) (by exact ⟨by rw [← hR1.1]; exact (up_go (by omega) hfh).symm,by omega,by omega⟩) (cvR hE [0,1,2,3])
def finS (L:Arr Ln) (D Q:Arr Int) (k:Int):Int × Bool:=match upF Q (finH L D) k with | none=>(-1,false) | some c=>(finE L D c + 1,true)
def finF (p:Pg) (u:Inf) (f k:Int):Int × Bool:=if spB p u f k = true then finS (p.funcs.f (Int.toNat f)).lines (u.ends.f f.toNat) (u.parent.f f.toNat) k else (-1,false)
theorem cfin_ctr (p:Pg) (u:Inf) (hI:InfB p u) (f k:Int):Ctr Tryd.prog 13 [pgA p,infA u,.agg [.int .i64 f,.int .i64 k]] [] 0 (fun r hp1 n1=>r = .ret (.tuple [.int .i64 (finF p u f k).1,.bool (finF p u f k).2])):=by
 have hIe:=hI.e (Int.toNat f) (Int.toNat k)
 have hIl:=hI.ln (Int.toNat f)
 refine ctr_body Tryd.func13 rfl (by kernel_rfl) Tryd.ntmps13 rfl rfl fun E hE=>?_
 refine g0 pcs_ok 17 [] (.op 14 3 [cN 15]) ⟨[(6,.ptr 3 0),(7,.ptr 4 0),(11,pgA p),(12,.agg (infC u)),(13,.agg [iI f,iI k])],[(3,.row 3 [iI (-1)]),(4,.row 4 [.bool false])],5⟩ ([.b true]) (aT aN) ?_
 refine gc (d:=some 14) [] (spotted_ctr p u f k) ?_
 rintro _ _ _ _ (⟨hin,⟨⟩,rfl,rfl⟩ | ⟨hin,⟨⟩,rfl,rfl⟩)
 ·skip
  refine g0 pcs_ok 15 [] (.go [cN 122,cN 31]) ⟨[(6,.ptr 3 0),(7,.ptr 4 0)],[(3,.row 3 [iI (-1)]),(4,.row 4 [.bool false])],7⟩ ([.b true]) (aT aN) ?_
  refine go_ret rfl ?_
  refine rfC ⟨[(6,.ptr 0 0),(7,.ptr 1 0)],[(0,.row 3 [iI (-1)]),(1,.row 4 [.bool false])],2⟩ [] [iI (-1),.bool false] (cvR hE [3,4]) ?_
  have hv:(((-1),false):Int × Bool) = finF p u f k:=by first | (have hsp:spB p u f k = false:=by rw [spB,hin,Bool.false_and]); simp [finF,hsp]; done | (rw [finF,if_pos hsp,finS,hup]; done) | (simp [finF,hsp]; done)
  exact congrArg (fun x:Int × Bool=>Ret.ret (.tuple [.int .i64 x.1,.bool x.2])) hv
 ·skip
  refine g0 pcs_ok 14 [] (.go [cN 61,cN 31]) ⟨[(6,.ptr 3 0),(7,.ptr 4 0),(8,.ptr 6 0),(18,.bool (!(okB p u f k)))],[(3,.row 3 [iI (-1)]),(4,.row 4 [.bool false]),(6,.row 83 [lns ((p.funcs.f (Int.toNat f)).lines),ints (u.ends.f (Int.toNat f)),ints (u.parent.f (Int.toNat f)),iI k])],7⟩ ([.b true]) (aT aN) ?_
  rcases Bool.eq_false_or_eq_true (!(okB p u f k)) with h1 | h1
  ·refine gb 18 true (!(okB p u f k)) (h1) ?_
   have hsp:spB p u f k = false:=by rw [spB,show okB p u f k = false by simpa using h1,Bool.and_false]
   refine g0 pcs_ok 1 [] (.go [cN 122,cN 31]) ⟨[(6,.ptr 3 0),(7,.ptr 4 0)],[(3,.row 3 [iI (-1)]),(4,.row 4 [.bool false])],7⟩ ([]) aN ?_
   refine go_ret rfl ?_
   refine rfC ⟨[(6,.ptr 0 0),(7,.ptr 1 0)],[(0,.row 3 [iI (-1)]),(1,.row 4 [.bool false])],2⟩ [] [iI (-1),.bool false] (cvR hE [3,4]) ?_
   have hv:(((-1),false):Int × Bool) = finF p u f k:=by first | (have hsp:spB p u f k = false:=by rw [spB,hin,Bool.false_and]); simp [finF,hsp]; done | (rw [finF,if_pos hsp,finS,hup]; done) | (simp [finF,hsp]; done)
   exact congrArg (fun x:Int × Bool=>Ret.ret (.tuple [.int .i64 x.1,.bool x.2])) hv
  ·refine gb 18 false (!(okB p u f k)) (h1) ?_
   have h0k:okB p u f k = true:=(by simpa using h1); have hsp:spB p u f k = true:=(by rw [spB,hin,h0k]; rfl); have hok:=of_decide_eq_true h0k
   refine g0 pcs_ok 6 [] (.op 62 2 [cN 63]) ⟨[(6,.ptr 3 0),(7,.ptr 4 0),(19,.agg [lns ((p.funcs.f (Int.toNat f)).lines),ints (u.ends.f (Int.toNat f)),ints (u.parent.f (Int.toNat f)),iI k]),(20,.func (.func 30) [] [.ptr 6 0,.ptr 3 0,.ptr 4 0])],[(3,.row 3 [iI (-1)]),(4,.row 4 [.bool false]),(6,.row 83 [lns ((p.funcs.f (Int.toNat f)).lines),ints (u.ends.f (Int.toNat f)),ints (u.parent.f (Int.toNat f)),iI k])],7⟩ ([]) aN ?_
   refine gc (d:=some 21) [6,3,4] (around_fin_ctr ((p.funcs.f (Int.toNat f)).lines) (u.ends.f (Int.toNat f)) (u.parent.f (Int.toNat f)) k (by omega) (by omega) (by omega) (fun c=>hI.e _ _) (by omega)) ?_
   rintro _ _ _ _ (⟨hup,⟨⟩,rfl,rfl⟩ | ⟨c,hup,⟨⟩,rfl,rfl⟩)
   ·skip
    refine g0 pcs_ok 2 [] (.go [cN 63]) ⟨[(6,.ptr 3 0),(7,.ptr 4 0)],[(3,.row 3 [iI (-1)]),(4,.row 4 [.bool false])],7⟩ ([]) aN ?_
    refine go_ret rfl ?_
    refine rfC ⟨[(6,.ptr 0 0),(7,.ptr 1 0)],[(0,.row 3 [iI (-1)]),(1,.row 4 [.bool false])],2⟩ [] [iI (-1),.bool false] (cvR hE [3,4]) ?_
    have hv:(((-1),false):Int × Bool) = finF p u f k:=by first | (have hsp:spB p u f k = false:=by rw [spB,hin,Bool.false_and]); simp [finF,hsp]; done | (rw [finF,if_pos hsp,finS,hup]; done) | (simp [finF,hsp]; done)
    exact congrArg (fun x:Int × Bool=>Ret.ret (.tuple [.int .i64 x.1,.bool x.2])) hv
   ·skip
    refine g0 pcs_ok 2 [] (.go [cN 63]) ⟨[(6,.ptr 3 0),(7,.ptr 4 0)],[(3,.row 3 [iI (finE (p.funcs.f (Int.toNat f)).lines (u.ends.f (Int.toNat f)) c + 1)]),(4,.row 4 [.bool true])],7⟩ ([]) aN ?_
    refine go_ret rfl ?_
    refine rfC ⟨[(6,.ptr 0 0),(7,.ptr 1 0)],[(0,.row 3 [iI (finE (p.funcs.f (Int.toNat f)).lines (u.ends.f (Int.toNat f)) c + 1)]),(1,.row 4 [.bool true])],2⟩ [] [iI (finE (p.funcs.f (Int.toNat f)).lines (u.ends.f (Int.toNat f)) c + 1),.bool true] (cvR hE [3,4]) ?_
    have hv:(((finE (p.funcs.f (Int.toNat f)).lines (u.ends.f (Int.toNat f)) c + 1),true):Int × Bool) = finF p u f k:=by first | (have hsp:spB p u f k = false:=by rw [spB,hin,Bool.false_and]); simp [finF,hsp]; done | (rw [finF,if_pos hsp,finS,hup]; done) | (simp [finF,hsp]; done)
    exact congrArg (fun x:Int × Bool=>Ret.ret (.tuple [.int .i64 x.1,.bool x.2])) hv
def h_fin (p:Pg) (u:Inf) (args:List AV):Option (AV × List Cnd):=match args with | [v,w,.agg [.int .i64 f,.int .i64 k]]=>some (.tuple [.int .i64 (finF p u f k).1,.bool (finF p u f k).2],[.p (v = pgA p),.p (w = infA u),.p (InfB p u)]) | _=>none
theorem pe_fin_ok (p:Pg) (u:Inf):PCOK Tryd.prog (pcF 13 (h_fin p u)):=pcF_ok fun args v c h hc=>by
 unfold h_fin at h
 split at h
 ·simp only [Option.some.injEq,Prod.mk.injEq] at h
  obtain ⟨rfl,rfl⟩:=h
  obtain ⟨rfl,rfl,hb,_⟩:=hc
  exact ⟨rfl,Ctr.pure rfl (cfin_ctr p u hb _ _) rfl⟩
 ·simp at h
end Go.SL
