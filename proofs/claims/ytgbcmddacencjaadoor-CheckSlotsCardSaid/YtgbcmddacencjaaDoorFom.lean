import Derived.Test.YtgbcmddacencjaaDoorFjm
import Derived.Test.YtgbcmddacencjaaDoorDam
set_option linter.unusedSimpArgs false
set_option linter.unusedVariables false
namespace Go.SL
open Go.Proofs
theorem bal_fit {ops:Nat→Int} {xs:List Ln} (h:Bal xs):Fit ops xs:=by
 induction h with
 | nil=>exact Fit.nil
 | simp xs x h hx ih =>
  refine Fit.one ih x ?_
  cases hx with
  | two op a b h1=>simp only [List.mem_cons,List.not_mem_nil,or_false] at h1; show op < 36∨42 < op; omega
  | three op a b c h1=>show op < 36∨42 < op; omega
  | fld op a b n h1=>simp only [List.mem_cons,List.not_mem_nil,or_false] at h1; show op < 36∨42 < op; omega
  | one op a h1=>simp only [List.mem_cons,List.not_mem_nil,or_false] at h1; show op < 36∨42 < op; omega
  | const a v=>show (1:Int) < 36∨42 < (1:Int); omega
  | new a n=>show (15:Int) < 36∨42 < (15:Int); omega
  | call a b c=>show (22:Int) < 36∨42 < (22:Int); omega
  | bind a b c k=>show (23:Int) < 36∨42 < (23:Int); omega
  | apply a b c k=>show (24:Int) < 36∨42 < (24:Int); omega
  | send a b c k=>show (25:Int) < 36∨42 < (25:Int); omega
  | final a=>show (28:Int) < 36∨42 < (28:Int); omega
  | yield=>show (33:Int) < 36∨42 < (33:Int); omega
  | spawn a n=>show (32:Int) < 36∨42 < (32:Int); omega
 | iff xs ys a h ha h2 i1 i2=>exact Fit.b1 i1 i2 _ _ (.inl rfl) rfl
 | ife xs ys zs a h ha h2 h3 i1 i2 i3=>exact Fit.b2 i1 i2 i3 _ _ _ (.inl ⟨rfl,rfl⟩) rfl
 | whl xs ys a h ha h2 i1 i2=>exact Fit.b1 i1 i2 _ _ (.inr rfl) rfl
 | tc xs ys zs a h ha h2 h3 i1 i2 i3=>exact Fit.b2 i1 i2 i3 _ _ _ (.inr (.inl ⟨rfl,rfl⟩)) rfl
 | tf xs ys zs h h2 h3 i1 i2 i3=>exact Fit.b2 i1 i2 i3 _ _ _ (.inr (.inr ⟨rfl,rfl⟩)) rfl
 | tcf xs ys zs us a h ha h2 h3 h4 i1 i2 i3 i4=>exact Fit.b3 i1 i2 i3 i4 _ _ _ _ ⟨rfl,rfl,rfl⟩ rfl
def idxL (l:List ByteArray) (s:ByteArray):Int:=idxI l.length (fun j=>decide (s = l.getD j eB))
theorem sidx_ctr (xs:List ByteArray) (hl:xs.length < 1000000) (s:ByteArray):Ctr Tryd.prog 31 [.slice 0 0 xs.length 1,.str s] [(0,.row 9 (stL xs))] 1 (fun r hp1 n1=>r = .ret (.int .i64 (idxL xs s))∧hp1 = [(0,.row 9 (stL xs))]∧n1 = 1):=by
 refine ctr_body Tryd.func31 rfl (by kernel_rfl) Tryd.ntmps31 rfl rfl fun E hE=>?_
 refine g0 pcs_ok 12 [] (.go [cN 26,.b 0,cN 7]) ⟨[(0,.slice 0 0 xs.length 1),(1,.str s),(7,nI xs.length),(8,iI 0)],[(0,.row 9 (stL xs))],1⟩ ([]) aN ?_
 refine go_loop (fun (k:Nat)=>⟨[(0,.slice 0 0 xs.length 1),(1,.str s),(7,nI xs.length),(8,nI k)],[(0,.row 9 (stL xs))],1⟩) (fun (k:Nat)=>k≤xs.length∧∀ j,j < k→decide (s = List.getD xs j eB) = false) (fun (k:Nat)=>xs.length - k) (0:Nat) rfl (by exact ⟨by omega,fun j hj=>by omega⟩) (cvM hE [0] toFR ⟨rS (stL xs) (by first | exact stL_closed | exact intL_closed | exact prL_closed | rfl) (LeL.refl _),toHR⟩) ?_
 intro k hR10
 have hR1:k≤xs.length∧∀ j,j < k→decide (s = List.getD xs j eB) = false:=hR10
 refine g0 pcs_ok 5 [] (.go [cN 210,cN 211]) ⟨[(0,.slice 0 0 xs.length 1),(1,.str s),(7,nI xs.length),(8,nI k),(9,.bool (decide ((k:Int) < (xs.length:Int))))],[(0,.row 9 (stL xs))],1⟩ ([]) aN ?_
 by_cases h2:(k:Int) < (xs.length:Int)
 ·refine gb 9 true (decide ((k:Int) < (xs.length:Int))) (decide_eq_true h2) ?_
  refine g0 pcs_ok 15 [] (.op 3378 4 [cN 3379,.b 1,cN 423]) ⟨[(0,.slice 0 0 xs.length 1),(1,.str s),(5,nI k),(7,nI xs.length),(8,nI k),(11,.str s),(14,.ptr 0 (0 + k * 1))],[(0,.row 9 (stL xs))],1⟩ ([.b (ixB (k:Int) ((xs.length:Nat)))]) (aD (by omega) aN) ?_
  refine g1 pcs_ok 4 [(15,.str (List.getD xs k eB))] (.go [cN 3379,.b 1,cN 423]) ⟨[(0,.slice 0 0 xs.length 1),(1,.str s),(5,nI k),(7,nI xs.length),(8,nI k),(16,.bool (decide (s = (List.getD xs k eB))))],[(0,.row 9 (stL xs))],1⟩ ([.p ((List.getD (List.drop (0 + k * 1) (stL xs)) 0 AV.any) = (AV.str (List.getD xs k eB))),.b (decide (0 < List.length (List.drop (0 + k * 1) (stL xs))))]) (aP (by exact stL_at (by omega) (by first | assumption | omega | (simp; omega) | (simp_all; omega))) (aD (by first | omega | (rw [List.length_drop,stL_len]; omega)) aN)) ?_
  by_cases h3:s = (List.getD xs k eB)
  ·refine gb 16 true (decide (s = (List.getD xs k eB))) (decide_eq_true h3) ?_
   refine g1 pcs_ok 6 [] (.go [cN 13517,.b 1,cN 423]) ⟨[(4,nI k)],[(0,.row 9 (stL xs))],1⟩ ([]) aN ?_
   refine go_ret rfl ?_
   refine rt_loop ?_
   refine rf ⟨[(4,nI k)],[(0,.row 9 (stL xs))],1⟩ [nI k] (cvM hE [0] toFR ⟨rS (stL xs) (by first | exact stL_closed | exact intL_closed | exact prL_closed | rfl) (LeL.refl _),toHR⟩) ?_
   refine ⟨congrArg (fun x=>Ret.ret (AV.int .i64 x)) ?_,rfl,rfl⟩
   exact (idxI_found (by omega) (decide_eq_true h3) hR1.2).symm
  ·refine gb 16 false (decide (s = (List.getD xs k eB))) (decide_eq_false h3) ?_
   refine g1 pcs_ok 7 [] (.go []) ⟨[(0,.slice 0 0 xs.length 1),(1,.str s),(7,nI xs.length),(8,nI (k + 1))],[(0,.row 9 (stL xs))],1⟩ ([.b (rng (((k + 1):Nat):Int))]) (aR (by omega) (by omega) aN) ?_
   refine go_again ((k + 1)) (by first | (dsimp only; omega) | omega) (by exact ⟨by omega,all_succ hR1.2 (decide_eq_false h3)⟩) (cvM hE [0] toFR ⟨rS (stL xs) (by first | exact stL_closed | exact intL_closed | exact prL_closed | rfl) (LeL.refl _),toHR⟩)
 ·refine gb 9 false (decide ((k:Int) < (xs.length:Int))) (decide_eq_false h2) ?_
  refine g0 pcs_ok 1 [] (.go [cN 421,cN 211]) ⟨[],[(0,.row 9 (stL xs))],1⟩ ([]) aN ?_
  refine go_brk rfl rfl rfl ?_
  refine g0 pcs_ok 4 [] (.go [cN 15]) ⟨[(4,iI (-1))],[(0,.row 9 (stL xs))],1⟩ ([]) aN ?_
  refine go_ret rfl ?_
  refine rf ⟨[(4,iI (-1))],[(0,.row 9 (stL xs))],1⟩ [iI (-1)] (cvM hE [0] toFR ⟨rS (stL xs) (by first | exact stL_closed | exact intL_closed | exact prL_closed | rfl) (LeL.refl _),toHR⟩) ?_
  refine ⟨congrArg (fun x=>Ret.ret (AV.int .i64 x)) ?_,rfl,rfl⟩
  exact (idxI_none fun j hj=>hR1.2 j (by omega)).symm
theorem scont_ctr (xs:List ByteArray) (hl:xs.length < 1000000) (s:ByteArray):Ctr Tryd.prog 46 [.slice 0 0 xs.length 1,.str s] [(0,.row 9 (stL xs))] 1 (fun r hp1 n1=>r = .ret (.bool (decide (idxL xs s ≥ 0)))∧hp1 = [(0,.row 9 (stL xs))]∧n1 = 1):=by
 refine ctr_body Tryd.func46 rfl (by kernel_rfl) Tryd.ntmps46 rfl rfl fun E hE=>?_
 refine g0 pcs_ok 8 [] (.op 6 2 [cN 7]) ⟨[(5,.slice 0 0 xs.length 1),(6,.str s)],[(0,.row 9 (stL xs))],1⟩ ([]) aN ?_
 refine gc (d:=some 7) [0] (sidx_ctr xs (by first | assumption | omega | (simp; omega)) s) ?_ (hh:=⟨cS (by first | exact stL_closed | exact intL_closed | exact prL_closed | rfl),toCR⟩)
 rintro _ _ _ _ ⟨⟨⟩,rfl,rfl⟩
 refine go_to ⟨[(7,iI (idxL xs s))],[(0,.row 9 (stL xs))],1⟩ (cvM hE [0] toFR ⟨rS (renL (later (nth [0]) 1 1) (stL xs)) (by first | exact stL_closed | exact intL_closed | exact prL_closed | rfl) (LeL_of_eq (renL_closed _ (by first | exact stL_closed | exact intL_closed | exact prL_closed | rfl))),toHR⟩) ?_
 refine g0 pcs_ok 4 [] (.go [cN 7]) ⟨[(4,.bool (decide ((idxL xs s) ≥ 0)))],[(0,.row 9 (stL xs))],1⟩ ([]) aN ?_
 refine go_ret rfl ?_
 refine rf ⟨[(4,.bool (decide ((idxL xs s) ≥ 0)))],[(0,.row 9 (stL xs))],1⟩ [.bool (decide ((idxL xs s) ≥ 0))] (cvM hE [0] toFR ⟨rS (stL xs) (by first | exact stL_closed | exact intL_closed | exact prL_closed | rfl) (LeL.refl _),toHR⟩) ?_
 exact ⟨rfl,rfl,rfl⟩
theorem vempty_ctr (s:ByteArray) :Ctr Tryd.prog 63 [.str s] [] 0 (fun r _ _=>r = .ret (.bool (decide (s = bs [])))):=by
 refine ctr_body Tryd.func63 rfl (by kernel_rfl) Tryd.ntmps63 rfl rfl fun E hE=>?_
 refine g0 pcs_ok 10 [] (.go [cN 7]) ⟨[(2,.bool (decide (s = (bs []))))],[],0⟩ ([]) aN ?_
 refine go_ret rfl ?_
 refine rf ⟨[(2,.bool (decide (s = (bs []))))],[],0⟩ [.bool (decide (s = (bs [])))] (cvR hE []) ?_
 rfl
def h_vempty (args:List AV):Option (AV × List Cnd):=match args with | [.str s]=>some (.bool (decide (s = bs [])),[]) | _=>none
theorem pe_vempty_ok:PCOK Tryd.prog (pcF 63 h_vempty):=pcF_ok fun args v c h hc=>by
 unfold h_vempty at h
 split at h
 ·simp only [Option.some.injEq,Prod.mk.injEq] at h
  obtain ⟨rfl,rfl⟩:=h
  exact ⟨rfl,Ctr.pure rfl (vempty_ctr _) rfl⟩
 ·simp at h
theorem sixf_ctr (xs:List ByteArray) (hl:xs.length < 1000000):Ctr Tryd.prog 70 [.slice 0 0 xs.length 1,.func (.func 63) [] []] [(0,.row 9 (stL xs))] 1 (fun r hp1 n1=>r = .ret (.int .i64 (idxE xs))∧hp1 = [(0,.row 9 (stL xs))]∧n1 = 1):=by
 have hpc:=(pcOr_ok pe_vempty_ok pc0_ok)
 refine ctr_body Tryd.func70 rfl (by kernel_rfl) Tryd.ntmps70 rfl rfl fun E hE=>?_
 refine g0 hpc 12 [] (.go [cN 26,.b 0,cN 7]) ⟨[(0,.slice 0 0 xs.length 1),(1,.func (.func 63) [] []),(7,nI xs.length),(8,iI 0)],[(0,.row 9 (stL xs))],1⟩ ([]) aN ?_
 refine go_loop (fun (k:Nat)=>⟨[(0,.slice 0 0 xs.length 1),(1,.func (.func 63) [] []),(7,nI xs.length),(8,nI k)],[(0,.row 9 (stL xs))],1⟩) (fun (k:Nat)=>k≤xs.length∧∀ j,j < k→decide (List.getD xs j eB = eB) = false) (fun (k:Nat)=>xs.length - k) (0:Nat) rfl (by exact ⟨by omega,fun j hj=>by omega⟩) (cvM hE [0] toFR ⟨rS (stL xs) (by first | exact stL_closed | exact intL_closed | exact prL_closed | rfl) (LeL.refl _),toHR⟩) ?_
 intro k hR10
 have hR1:k≤xs.length∧∀ j,j < k→decide (List.getD xs j eB = eB) = false:=hR10
 refine g0 hpc 5 [] (.go [cN 210,cN 211]) ⟨[(0,.slice 0 0 xs.length 1),(1,.func (.func 63) [] []),(7,nI xs.length),(8,nI k),(9,.bool (decide ((k:Int) < (xs.length:Int))))],[(0,.row 9 (stL xs))],1⟩ ([]) aN ?_
 by_cases h2:(k:Int) < (xs.length:Int)
 ·refine gb 9 true (decide ((k:Int) < (xs.length:Int))) (decide_eq_true h2) ?_
  refine g0 hpc 15 [] (.op 3378 4 [cN 3379,.b 1,cN 423]) ⟨[(0,.slice 0 0 xs.length 1),(1,.func (.func 63) [] []),(5,nI k),(7,nI xs.length),(8,nI k),(11,.func (.func 63) [] []),(14,.ptr 0 (0 + k * 1))],[(0,.row 9 (stL xs))],1⟩ ([.b (ixB (k:Int) ((xs.length:Nat)))]) (aD (by omega) aN) ?_
  refine g1 hpc 4 [(15,.str (List.getD xs k eB))] (.go [cN 3379,.b 1,cN 423]) ⟨[(0,.slice 0 0 xs.length 1),(1,.func (.func 63) [] []),(5,nI k),(7,nI xs.length),(8,nI k),(16,.bool (decide ((List.getD xs k eB) = (bs []))))],[(0,.row 9 (stL xs))],1⟩ ([.p ((List.getD (List.drop (0 + k * 1) (stL xs)) 0 AV.any) = (AV.str (List.getD xs k eB))),.b (decide (0 < List.length (List.drop (0 + k * 1) (stL xs))))]) (aP (by exact stL_at (by omega) (by first | assumption | omega | (simp; omega) | (simp_all; omega))) (aD (by first | omega | (rw [List.length_drop,stL_len]; omega) | (rw [stL_len]; omega) | (constructor <;> first | omega | (rw [stL_len]; omega))) aN)) ?_
  by_cases h3:(List.getD xs k eB) = (bs [])
  ·refine gb 16 true (decide ((List.getD xs k eB) = (bs []))) (decide_eq_true h3) ?_
   refine g1 hpc 6 [] (.go [cN 13517,.b 1,cN 423]) ⟨[(4,nI k)],[(0,.row 9 (stL xs))],1⟩ ([]) aN ?_
   refine go_ret rfl ?_
   refine rt_loop ?_
   refine rf ⟨[(4,nI k)],[(0,.row 9 (stL xs))],1⟩ [nI k] (cvM hE [0] toFR ⟨rS (stL xs) (by first | exact stL_closed | exact intL_closed | exact prL_closed | rfl) (LeL.refl _),toHR⟩) ?_
   refine ⟨congrArg (fun x=>Ret.ret (AV.int .i64 x)) ?_,rfl,rfl⟩
   exact (idxI_found (by omega) (decide_eq_true h3) hR1.2).symm
  ·refine gb 16 false (decide ((List.getD xs k eB) = (bs []))) (decide_eq_false h3) ?_
   refine g1 hpc 7 [] (.go []) ⟨[(0,.slice 0 0 xs.length 1),(1,.func (.func 63) [] []),(7,nI xs.length),(8,nI (k + 1))],[(0,.row 9 (stL xs))],1⟩ ([.b (rng (((k + 1):Nat):Int))]) (aR (by omega) (by omega) aN) ?_
   refine go_again ((k + 1)) (by first | (dsimp only; omega) | omega) (by exact ⟨by omega,all_succ hR1.2 (decide_eq_false h3)⟩) (cvM hE [0] toFR ⟨rS (stL xs) (by first | exact stL_closed | exact intL_closed | exact prL_closed | rfl) (LeL.refl _),toHR⟩)
 ·refine gb 9 false (decide ((k:Int) < (xs.length:Int))) (decide_eq_false h2) ?_
  refine g0 hpc 1 [] (.go [cN 421,cN 211]) ⟨[],[(0,.row 9 (stL xs))],1⟩ ([]) aN ?_
  refine go_brk rfl rfl rfl ?_
  refine g0 hpc 4 [] (.go [cN 15]) ⟨[(4,iI (-1))],[(0,.row 9 (stL xs))],1⟩ ([]) aN ?_
  refine go_ret rfl ?_
  refine rf ⟨[(4,iI (-1))],[(0,.row 9 (stL xs))],1⟩ [iI (-1)] (cvM hE [0] toFR ⟨rS (stL xs) (by first | exact stL_closed | exact intL_closed | exact prL_closed | rfl) (LeL.refl _),toHR⟩) ?_
  refine ⟨congrArg (fun x=>Ret.ret (AV.int .i64 x)) ?_,rfl,rfl⟩
  exact (idxI_none fun j hj=>hR1.2 j (by omega)).symm
theorem del_ctr (xs:List ByteArray) (hl:xs.length < 1000000):Ctr Tryd.prog 62 [.slice 0 0 xs.length 1,.func (.func 63) [] []] [(0,.row 9 (stL xs))] 1 (fun r hp1 n1=>r = .ret (.slice 1 0 (List.length (filtE xs)) 1)∧hp1 = [(1,.row 9 (stL (filtE xs)))]∧n1 = 2):=by
 have hpc:=(pcOr_ok pe_vempty_ok pc0_ok)
 refine ctr_body Tryd.func62 rfl (by kernel_rfl) Tryd.ntmps62 rfl rfl fun E hE=>?_
 refine g0 hpc 8 [] (.op 6 2 [cN 7]) ⟨[(0,.slice 0 0 xs.length 1),(1,.func (.func 63) [] []),(8,.slice 0 0 xs.length 1),(9,.func (.func 63) [] [])],[(0,.row 9 (stL xs))],1⟩ ([]) aN ?_
 refine gc (d:=some 10) [0] (sixf_ctr xs (by first | assumption | omega | (simp; omega))) ?_ (hh:=⟨cS (by first | exact stL_closed | exact setAll_closed _ _ _ (repZ_closed _ rfl _) stL_closed | rfl),toCR⟩)
 rintro _ _ _ _ ⟨⟨⟩,rfl,rfl⟩
 refine go_to ⟨[(0,.slice 0 0 xs.length 1),(1,.func (.func 63) [] []),(10,iI (idxE xs))],[(0,.row 9 (stL xs))],1⟩ (cvM hE [0] toFR ⟨rS (renL (later (nth [0]) 1 1) (stL xs)) (by first | exact stL_closed | exact setAll_closed _ _ _ (repZ_closed _ rfl _) stL_closed | rfl) (LeL_of_eq (renL_closed _ (by first | exact stL_closed | exact setAll_closed _ _ _ (repZ_closed _ rfl _) stL_closed | rfl))),toHR⟩) ?_
 refine g0 hpc 9 [] (.go [cN 29,cN 15]) ⟨[(0,.slice 0 0 xs.length 1),(1,.func (.func 63) [] []),(5,iI (idxE xs)),(12,.bool (decide ((idxE xs) = (-1))))],[(0,.row 9 (stL xs))],1⟩ ([]) aN ?_
 by_cases h1:(idxE xs) = (-1)
 ·refine gb 12 true (decide ((idxE xs) = (-1))) (decide_eq_true h1) ?_
  refine g0 hpc 6 [] (.go [cN 117,cN 15]) ⟨[(4,.slice 0 0 xs.length 1)],[(0,.row 9 (stL xs))],1⟩ ([]) aN ?_
  refine go_to _ (cv_cut 0 1 9 (stL xs) xs.length [] [xs.length] (by kernel_rfl) (by rw [stL_len]; omega) (by kernel_rfl) (by kernel_rfl) (by simp)) ?_
  refine go_ret rfl ?_
  refine rf ⟨[(4,.slice 1 0 (List.length (filtE xs)) 1)],[(1,.row 9 (stL (filtE xs)))],2⟩ [.slice 1 0 (List.length (filtE xs)) 1] (cvM hE [0,1] ⟨sL (.slice 1 0 xs.length 1) (Le.of_eq (by rw [idxE_none h1]; rfl)),toFR⟩ ⟨rS (List.take (xs.length * 1) (stL xs)) stL_closed (LeL_of_eq (by rw [Nat.mul_one,stL_take,List.take_length,idxE_none h1])),toHR⟩) ?_
  exact ⟨rfl,rfl,rfl⟩
 ·refine gb 12 false (decide ((idxE xs) = (-1))) (decide_eq_false h1) ?_
  have hix:=idxE_some h1
  refine g0 hpc 10 [] (.go [cN 122,.b 0,cN 31]) ⟨[(0,.slice 0 0 xs.length 1),(1,.func (.func 63) [] []),(5,iI (idxE xs)),(6,iI ((idxE xs) + 1))],[(0,.row 9 (stL xs))],1⟩ ([.b (rng ((idxE xs) + 1))]) (aR (by omega) (by omega) aN) ?_
  refine go_loop (fun (z_:Nat × Nat × List ByteArray)=>match z_ with | (i,j,ys)=>⟨[(0,.slice 0 0 xs.length 1),(1,.func (.func 63) [] []),(5,nI i),(6,nI j)],[(0,.row 9 (stL ys))],1⟩) (fun (z_:Nat × Nat × List ByteArray)=>match z_ with | (i,j,ys)=>DelR xs ys i j) (fun (z_:Nat × Nat × List ByteArray)=>match z_ with | (i,j,ys)=>xs.length - j) ((Int.toNat (idxE xs)),(Int.toNat (idxE xs) + 1),xs) rfl (by exact hix.2.2) (cvM hE [0] ⟨sR,sR,sL (iI (idxE xs)) (Le.of_eq (congrArg (AV.int .i64) (by omega))),sL (iI ((idxE xs) + 1)) (Le.of_eq (congrArg (AV.int .i64) (by omega))),toFR⟩ ⟨rS (stL xs) (by first | exact stL_closed | exact setAll_closed _ _ _ (repZ_closed _ rfl _) stL_closed | rfl) (LeL.refl _),toHR⟩) ?_
  rintro ⟨i,j,ys⟩ hR20
  have hR2:DelR xs ys i j:=hR20
  have hDR:=hR2; have hDl:=hDR.len; have hDj:=hDR.jn; have hDi:=hDR.ij
  refine g0 hpc 8 [] (.go [cN 977,cN 489]) ⟨[(0,.slice 0 0 xs.length 1),(1,.func (.func 63) [] []),(5,nI i),(6,nI j),(19,.bool (decide ((j:Int) < (xs.length:Int))))],[(0,.row 9 (stL ys))],1⟩ ([]) aN ?_
  by_cases h3:(j:Int) < (xs.length:Int)
  ·refine gb 19 true (decide ((j:Int) < (xs.length:Int))) (decide_eq_true h3) ?_
   refine g0 hpc 9 [] (.op 3912 3 [cN 3913,.b 1,cN 979]) ⟨[(0,.slice 0 0 xs.length 1),(1,.func (.func 63) [] []),(5,nI i),(6,nI j),(24,.ptr 0 (0 + j * 1))],[(0,.row 9 (stL ys))],1⟩ ([.b (ixB (j:Int) ((xs.length:Nat)))]) (aD (by omega) aN) ?_
   refine g1 hpc 11 [(25,.str (List.getD ys j eB))] (.go [cN 7827,.b 1,cN 979]) ⟨[(0,.slice 0 0 xs.length 1),(1,.func (.func 63) [] []),(5,nI i),(6,nI j),(7,.str (List.getD ys j eB)),(29,.bool (!(decide ((List.getD ys j eB) = (bs [])))))],[(0,.row 9 (stL ys))],1⟩ ([.p ((List.getD (List.drop (0 + j * 1) (stL ys)) 0 AV.any) = (AV.str (List.getD ys j eB))),.b (decide (0 < List.length (List.drop (0 + j * 1) (stL ys))))]) (aP (by exact stL_at (by omega) (by first | assumption | omega | (simp; omega) | (simp_all; omega))) (aD (by first | omega | (rw [List.length_drop,stL_len]; omega) | (rw [stL_len]; omega) | (constructor <;> first | omega | (rw [stL_len]; omega))) aN)) ?_
   by_cases h4:(List.getD ys j eB) = (bs [])
   ·refine gb 29 false (!(decide ((List.getD ys j eB) = (bs [])))) (ndecF h4) ?_
    have hdl:=DelR.skip hDR (by omega) h4
    refine g1 hpc 8 [] (.go []) ⟨[(0,.slice 0 0 xs.length 1),(1,.func (.func 63) [] []),(5,nI i),(6,nI (j + 1))],[(0,.row 9 (stL ys))],1⟩ ([.b (rng (((j + 1):Nat):Int))]) (aR (by omega) (by omega) aN) ?_
    refine go_again (i,(j + 1),ys) (by first | (dsimp only; omega) | omega) (by exact hdl) (cvM hE [0] toFR ⟨rS (stL ys) (by first | exact stL_closed | exact setAll_closed _ _ _ (repZ_closed _ rfl _) stL_closed | rfl) (LeL.refl _),toHR⟩)
   ·refine gb 29 true (!(decide ((List.getD ys j eB) = (bs [])))) (ndec h4) ?_
    have hdl:=DelR.take hDR (by omega) h4
    refine g1 hpc 20 [] (.go []) ⟨[(0,.slice 0 0 xs.length 1),(1,.func (.func 63) [] []),(5,nI (i + 1)),(6,nI (j + 1))],[(0,.row 9 (List.set (stL ys) (0 + i * 1) (.str (List.getD ys j eB))))],1⟩ ([.b (rng (((j + 1):Nat):Int)),.b (rng (((i + 1):Nat):Int)),.b (decide ((0 + i * 1) + 1≤List.length (stL ys))),.b (ixB (i:Int) ((xs.length:Nat)))]) (aR (by omega) (by omega) (aR (by omega) (by omega) (aD (by first | omega | (rw [List.length_drop,stL_len]; omega) | (rw [stL_len]; omega) | (constructor <;> first | omega | (rw [stL_len]; omega))) (aD (by first | omega | (rw [List.length_drop,stL_len]; omega) | (rw [stL_len]; omega) | (constructor <;> first | omega | (rw [stL_len]; omega))) aN)))) ?_
    refine go_to ⟨[(0,.slice 0 0 xs.length 1),(1,.func (.func 63) [] []),(5,nI (i + 1)),(6,nI (j + 1))],[(0,.row 9 (stL (List.set ys i (List.getD ys j eB))))],1⟩ (cvM hE [0] toFR ⟨rS (List.set (stL ys) (0 + i * 1) (.str (List.getD ys j eB))) (by first | exact stL_closed | exact setAll_closed _ _ _ (repZ_closed _ rfl _) stL_closed | rfl) (LeL_of_eq (stL_setAt (by omega))),toHR⟩) ?_
    refine go_again ((i + 1),(j + 1),(List.set ys i (List.getD ys j eB))) (by first | (dsimp only; omega) | omega) (by exact hdl) (cvM hE [0] toFR ⟨rS (stL (List.set ys i (List.getD ys j eB))) (by first | exact stL_closed | exact setAll_closed _ _ _ (repZ_closed _ rfl _) stL_closed | rfl) (LeL.refl _),toHR⟩)
  ·refine gb 19 false (decide ((j:Int) < (xs.length:Int))) (decide_eq_false h3) ?_
   refine g0 hpc 1 [] (.go [cN 1955,cN 489]) ⟨[(0,.slice 0 0 xs.length 1),(5,nI i)],[(0,.row 9 (stL ys))],1⟩ ([]) aN ?_
   refine go_brk rfl rfl rfl ?_
   refine g0 hpc 14 [] (.go [cN 127]) ⟨[(4,.slice 0 0 i 1)],[(0,.row 9 (setAll (stL ys) (0 + i * 1) (repZ (xs.length - i) [.str (bs [])])))],1⟩ ([.b (decide ((0:Int)≤0∧0≤(i:Int)∧(i:Int)≤(xs.length:Int))),.b (decide ((0 + i * 1) + (xs.length - i) * 1≤List.length (stL ys))),.b (decide ((0:Int)≤(i:Int)∧(i:Int)≤(xs.length:Int)∧(xs.length:Int)≤(xs.length:Int)))]) (aD (by first | omega | (rw [List.length_drop,stL_len]; omega) | (rw [stL_len]; omega) | (constructor <;> first | omega | (rw [stL_len]; omega))) (aD (by first | omega | (rw [List.length_drop,stL_len]; omega) | (rw [stL_len]; omega) | (constructor <;> first | omega | (rw [stL_len]; omega))) (aD (by first | omega | (rw [List.length_drop,stL_len]; omega) | (rw [stL_len]; omega) | (constructor <;> first | omega | (rw [stL_len]; omega))) aN))) ?_
   have hfin:=DelR.fin hDR (by omega)
   refine go_to _ (cv_cut 0 1 9 (setAll (stL ys) (0 + i * 1) (repZ (xs.length - i) [.str (bs [])])) i [] [i] (by kernel_rfl) (by rw [setAll_length,stL_len]; have:=hDR.len; have:=hDR.ij; have:=hDR.jn; omega) (by kernel_rfl) (by kernel_rfl) (by simp)) ?_
   refine go_ret rfl ?_
   refine rf ⟨[(4,.slice 1 0 (List.length (filtE xs)) 1)],[(1,.row 9 (stL (filtE xs)))],2⟩ [.slice 1 0 (List.length (filtE xs)) 1] (cvM hE [0,1] ⟨sL (.slice 1 0 i 1) (Le.of_eq (by rw [← hfin.2]; rfl)),toFR⟩ ⟨rS (List.take (i * 1) (setAll (stL ys) (0 + i * 1) (repZ (xs.length - i) [.str (bs [])]))) stL_closed (LeL_of_eq (by rw [Nat.mul_one,setAll_take _ _ _ _ (by omega),stL_take,hfin.1])),toHR⟩) ?_
   exact ⟨rfl,rfl,rfl⟩
end Go.SL
namespace Go.SL
open Go.Proofs
theorem vars_ctr (x:Ln) (hx:x.args.n≤8):Ctr Tryd.prog 45 [.agg (lnC x)] [] 0 (fun r hp1 n1=>r = .ret (strs (ofL eB (varsL x)))∧hp1 = []∧n1 = 0):=by
 refine ctr_body Tryd.func45 rfl (by kernel_rfl) Tryd.ntmps45 rfl rfl fun E hE=>?_
 refine g0 pcs_ok 17 [] (.op 6 10 [cN 7]) ⟨[(12,.slice 2 0 (3 + x.args.n) 1)],[(2,.row 9 (([.str x.a,.str x.b,.str x.c]:List AV) ++ (((List.range x.args.n).map (fun i=>[AV.str (x.args.f i)])).flatten)))],3⟩ ([.b (AV.ones (((List.range x.args.n).map (fun i=>[AV.str (x.args.f i)])).flatten)),.b (decide (3 * 1 = List.length ([.str x.a,.str x.b,.str x.c]:List AV)∧(3 + x.args.n) * 16≤140737488355328))]) (aC (by rw [flat_stL]; exact stL_ones) (aD (by simp; omega) aN)) ?_
 refine go_to ⟨[(12,.slice 2 0 (3 + x.args.n) 1)],[(2,.row 9 (stL ([x.a,x.b,x.c] ++ arrL x.args)))],3⟩ (cvM hE [0,1,2] toFR ⟨rS (([.str x.a,.str x.b,.str x.c]:List AV) ++ (((List.range x.args.n).map (fun i=>[AV.str (x.args.f i)])).flatten)) stL_closed (LeL_of_eq (by rw [flat_stL]; rfl)),toHR⟩) ?_
 refine gc (d:=some 13) [2] (del_ctr ([x.a,x.b,x.c] ++ arrL x.args) (by simp [arrL_len]; omega)) ?_ (hh:=⟨cS (by first | exact stL_closed | rfl),toCR⟩) (hle:=show LeL [.slice 2 0 (3 + x.args.n) 1,.func (.func 63) [] []] [.slice 2 0 (List.length ([x.a,x.b,x.c] ++ arrL x.args)) 1,.func (.func 63) [] []] from ⟨Le.of_eq (congrArg (fun n=>AV.slice 2 0 n 1) (by simp [arrL_len]; omega)),Le.refl _,trivial⟩)
 rintro _ _ _ _ ⟨⟨⟩,rfl,rfl⟩
 refine go_to ⟨[(13,.slice 3 0 (List.length (filtE ([x.a,x.b,x.c] ++ arrL x.args))) 1)],[(3,.row 9 (stL (filtE ([x.a,x.b,x.c] ++ arrL x.args))))],4⟩ (cvM hE [0,1,2,3] toFR ⟨rS (renL (later (nth [2]) 1 3) (stL (filtE ([x.a,x.b,x.c] ++ arrL x.args)))) (by first | exact stL_closed | rfl) (LeL_of_eq (renL_closed _ (by first | exact stL_closed | rfl))),toHR⟩) ?_
 refine g0 pcs_ok 3 [] (.go [cN 7]) ⟨[(2,.slice 3 0 (List.length (filtE ([x.a,x.b,x.c] ++ arrL x.args))) 1)],[(3,.row 9 (stL (filtE ([x.a,x.b,x.c] ++ arrL x.args))))],4⟩ ([]) aN ?_
 refine go_to _ (cv_freezeL 3 1 9 (stL (filtE ([x.a,x.b,x.c] ++ arrL x.args))) (List.length (filtE ([x.a,x.b,x.c] ++ arrL x.args))) (fun i=>[AV.str (List.getD (filtE ([x.a,x.b,x.c] ++ arrL x.args)) i eB)]) [(List.length (filtE ([x.a,x.b,x.c] ++ arrL x.args)))] (by kernel_rfl) (stL_closed) (by rw [stL_len,Nat.mul_one]) (fun i hi=>stL_get hi) (by kernel_rfl) (by simp)) ?_
 refine go_ret rfl ?_
 refine rf ⟨[(2,.lst 1 (List.length (filtE ([x.a,x.b,x.c] ++ arrL x.args))) (fun i=>[AV.str (List.getD (filtE ([x.a,x.b,x.c] ++ arrL x.args)) i eB)]))],[],0⟩ [.lst 1 (List.length (filtE ([x.a,x.b,x.c] ++ arrL x.args))) (fun i=>[AV.str (List.getD (filtE ([x.a,x.b,x.c] ++ arrL x.args)) i eB)])] (cvR hE []) ?_
 exact ⟨rfl,rfl,rfl⟩
def followsE:List (AV × AV):=[(.int .i64 37,ints (ofL 0 [36])),(.int .i64 40,ints (ofL 0 [39])),(.int .i64 41,ints (ofL 0 [39,40])),(.int .i64 42,ints (ofL 0 [36,37,38,40,41]))]
def folL (op:Int):List Int:=if op = 37 then [36] else if op = 40 then [39] else if op = 41 then [39,40] else [36,37,38,40,41]
theorem fol_none {op:Int} (h:op ≠ 37∧op ≠ 40∧op ≠ 41∧op ≠ 42):lookF (.int .i64 op) .nilSlice followsE = .nilSlice∧lookB (.int .i64 op) followsE = false:=by
 simp [lookF,lookB,followsE,keyEq,h.1,h.2.1,h.2.2.1,h.2.2.2]
theorem fol_some {op:Int} (h:op = 37∨op = 40∨op = 41∨op = 42):lookF (.int .i64 op) .nilSlice followsE = ints (ofL 0 (folL op))∧lookB (.int .i64 op) followsE = true:=by
 rcases h with rfl | rfl | rfl | rfl <;> exact ⟨rfl,rfl⟩
theorem folL_n (op:Int):(ofL 0 (folL op)).n < 1000000:=by
 show (folL op).length < 1000000
 unfold folL; repeat' split
 all_goals decide
def hasV (m:Nat) (F:Nat→List AV) (v:Int):Bool:=(List.range m).any fun j=>decide (v = intOf (F j))
theorem hasV_fol {op v:Int} (h:folB op v = true) (ho:op = 37∨op = 40∨op = 41∨op = 42):hasV (ofL 0 (folL op)).n (fun i=>[AV.int .i64 ((ofL 0 (folL op)).f i)]) v = true:=by
 rcases ho with rfl | rfl | rfl | rfl
 ·simp [folB] at h; subst h; rfl
 ·simp [folB] at h; subst h; rfl
 ·simp [folB] at h; rcases h with rfl | rfl <;> rfl
 ·simp [folB] at h; rcases h with ((((rfl | rfl) | rfl) | rfl) | rfl) <;> rfl
theorem hasV_idx (l:Arr Int) (v:Int):hasV l.n (fun i=>[AV.int .i64 (l.f i)]) v = decide (idxI l.n (fun j=>decide (v = l.f j)) ≥ 0):=by
 rcases idxI_cases l.n (fun j=>decide (v = l.f j)) with ⟨k,h1,h2,h3,e⟩ | ⟨h1,e⟩
 ·rw [e,decide_eq_true (by omega)]
  simp only [hasV,List.any_eq_true,List.mem_range]
  exact ⟨k,h1,h2⟩
 ·rw [e,decide_eq_false (by omega)]
  simp only [hasV,List.any_eq_false,List.mem_range]
  intro j hj hc
  have h2:=h1 j hj
  simp only [intOf] at hc
  exact absurd (of_decide_eq_true hc) (of_decide_eq_false h2)
theorem follows_ctr:Ctr Tryd.prog 60 [] [] 0 (fun r hp1 n1=>r = .ret (.map 0)∧hp1 = [(0,.mp followsE)]∧n1 = 1):=by
 refine ctr_body Tryd.func60 rfl (by kernel_rfl) Tryd.ntmps60 rfl rfl fun E hE=>?_
 refine g0 pcs_ok 8 [] (.op 6 2 [cN 7]) ⟨[(1,.map 0),(2,.slice 1 0 1 1)],[(0,.mp []),(1,.row 3 [iI 36])],2⟩ ([]) aN ?_
 refine go_to _ (cv_freezeL 1 1 3 ([iI 36]) 1 (fun i=>[AV.int .i64 (List.getD [36] i 0)]) [1] (by kernel_rfl) (by kernel_rfl) (by kernel_rfl) (fun i hi=>by match i,hi with | 0,_=>rfl | k + 1,h=>exact absurd h (by omega)) (by kernel_rfl) (by simp; try omega)) ?_
 refine g0 pcs_ok 3 [] (.op 6 4 [cN 7]) ⟨[(1,.map 0),(3,.slice 2 0 1 1)],[(0,.mp [(iI 37,.lst 1 1 (fun i=>[AV.int .i64 (List.getD [36] i 0)]))]),(2,.row 3 [iI 39])],3⟩ ([.b true]) (aT aN) ?_
 refine go_to _ (cv_freezeL 2 1 3 ([iI 39]) 1 (fun i=>[AV.int .i64 (List.getD [39] i 0)]) [1] (by kernel_rfl) (by kernel_rfl) (by kernel_rfl) (fun i hi=>by match i,hi with | 0,_=>rfl | k + 1,h=>exact absurd h (by omega)) (by kernel_rfl) (by simp; try omega)) ?_
 refine g0 pcs_ok 3 [] (.op 6 6 [cN 7]) ⟨[(1,.map 0),(4,.slice 3 0 2 1)],[(0,.mp [(iI 37,.lst 1 1 (fun i=>[AV.int .i64 (List.getD [36] i 0)])),(iI 40,.lst 1 1 (fun i=>[AV.int .i64 (List.getD [39] i 0)]))]),(3,.row 3 [iI 39,iI 40])],4⟩ ([.b true]) (aT aN) ?_
 refine go_to _ (cv_freezeL 3 1 3 ([iI 39,iI 40]) 2 (fun i=>[AV.int .i64 (List.getD [39,40] i 0)]) [2] (by kernel_rfl) (by kernel_rfl) (by kernel_rfl) (fun i hi=>by match i,hi with | 0,_=>rfl | 1,_=>rfl | k + 2,h=>exact absurd h (by omega)) (by kernel_rfl) (by simp; try omega)) ?_
 refine g0 pcs_ok 3 [] (.op 6 8 [cN 7]) ⟨[(1,.map 0),(5,.slice 4 0 5 1)],[(0,.mp [(iI 37,.lst 1 1 (fun i=>[AV.int .i64 (List.getD [36] i 0)])),(iI 40,.lst 1 1 (fun i=>[AV.int .i64 (List.getD [39] i 0)])),(iI 41,.lst 1 2 (fun i=>[AV.int .i64 (List.getD [39,40] i 0)]))]),(4,.row 3 [iI 36,iI 37,iI 38,iI 40,iI 41])],5⟩ ([.b true]) (aT aN) ?_
 refine go_to _ (cv_freezeL 4 1 3 ([iI 36,iI 37,iI 38,iI 40,iI 41]) 5 (fun i=>[AV.int .i64 (List.getD [36,37,38,40,41] i 0)]) [5] (by kernel_rfl) (by kernel_rfl) (by kernel_rfl) (fun i hi=>by match i,hi with | 0,_=>rfl | 1,_=>rfl | 2,_=>rfl | 3,_=>rfl | 4,_=>rfl | k + 5,h=>exact absurd h (by omega)) (by kernel_rfl) (by simp; try omega)) ?_
 refine g0 pcs_ok 5 [] (.go [cN 7]) ⟨[(0,.map 0)],[(0,.mp [(iI 37,.lst 1 1 (fun i=>[AV.int .i64 (List.getD [36] i 0)])),(iI 40,.lst 1 1 (fun i=>[AV.int .i64 (List.getD [39] i 0)])),(iI 41,.lst 1 2 (fun i=>[AV.int .i64 (List.getD [39,40] i 0)])),(iI 42,.lst 1 5 (fun i=>[AV.int .i64 (List.getD [36,37,38,40,41] i 0)]))])],5⟩ ([.b true]) (aT aN) ?_
 refine go_ret rfl ?_
 refine rf ⟨[(0,.map 0)],[(0,.mp [(iI 37,.lst 1 1 (fun i=>[AV.int .i64 (List.getD [36] i 0)])),(iI 40,.lst 1 1 (fun i=>[AV.int .i64 (List.getD [39] i 0)])),(iI 41,.lst 1 2 (fun i=>[AV.int .i64 (List.getD [39,40] i 0)])),(iI 42,.lst 1 5 (fun i=>[AV.int .i64 (List.getD [36,37,38,40,41] i 0)]))])],1⟩ [.map 0] (cvR hE [0]) ?_
 exact ⟨rfl,rfl,rfl⟩
def h_follows:PC:=fun f args hm=>if f = 60 then (match args with | []=>some (.map 0,[],[],[(0,some (.mp followsE))]) | _=>none) else none
theorem pe_follows_ok:PCOK Tryd.prog h_follows:=fun f args hm v c hs set h hc=>by
 unfold h_follows at h
 split at h
 ·rename_i hf
  subst hf
  split at h
  ·simp only [Option.some.injEq,Prod.mk.injEq] at h
   obtain ⟨rfl,rfl,rfl,rfl⟩:=h
   exact ⟨crokN follows_ctr (by kernel_rfl) rfl,by simp⟩
  ·simp at h
 ·simp at h
theorem iidx_ctr (l:Arr Int) (hl:l.n < 1000000) (v:Int):Ctr Tryd.prog 69 [ints l,.int .i64 v] [] 0 (fun r _ _=>r = .ret (.int .i64 (idxI l.n (fun j=>decide (v = l.f j))))):=by
 refine ctr_body Tryd.func69 rfl (by kernel_rfl) Tryd.ntmps69 rfl rfl fun E hE=>?_
 refine g0 pcs_ok 12 [] (.go [cN 26,.b 0,cN 7]) ⟨[(0,ints l),(1,iI v),(7,nI l.n),(8,iI 0)],[],0⟩ ([]) aN ?_
 refine go_loop (fun (k:Nat)=>⟨[(0,ints l),(1,iI v),(7,nI l.n),(8,nI k)],[],0⟩) (fun (k:Nat)=>k≤l.n∧∀ j,j < k→decide (v = l.f j) = false) (fun (k:Nat)=>l.n - k) (0:Nat) rfl (by exact ⟨by omega,fun j hj=>by omega⟩) (cvR hE []) ?_
 intro k hR10
 have hR1:k≤l.n∧∀ j,j < k→decide (v = l.f j) = false:=hR10
 refine g0 pcs_ok 5 [] (.go [cN 210,cN 211]) ⟨[(0,ints l),(1,iI v),(7,nI l.n),(8,nI k),(9,.bool (decide ((k:Int) < (l.n:Int))))],[],0⟩ ([]) aN ?_
 by_cases h2:(k:Int) < (l.n:Int)
 ·refine gb 9 true (decide ((k:Int) < (l.n:Int))) (decide_eq_true h2) ?_
  refine g0 pcs_ok 18 [] (.go [cN 3379,.b 1,cN 423]) ⟨[(0,ints l),(1,iI v),(5,nI k),(7,nI l.n),(8,nI k),(16,.bool (decide (v = (l.f k))))],[],0⟩ ([.b (ixB (k:Int) l.n)]) (aD (by first | assumption | omega | (simp_all; done) | (simp_all; omega)) aN) ?_
  by_cases h3:v = (l.f k)
  ·refine gb 16 true (decide (v = (l.f k))) (decide_eq_true h3) ?_
   refine g0 pcs_ok 6 [] (.go [cN 13517,.b 1,cN 423]) ⟨[(4,nI k)],[],0⟩ ([]) aN ?_
   refine go_ret rfl ?_
   refine rt_loop ?_
   refine rf ⟨[(4,nI k)],[],0⟩ [nI k] (cvR hE []) ?_
   refine congrArg (fun x=>Ret.ret (AV.int .i64 x)) ?_
   exact (idxI_found (by omega) (decide_eq_true h3) hR1.2).symm
  ·refine gb 16 false (decide (v = (l.f k))) (decide_eq_false h3) ?_
   refine g0 pcs_ok 7 [] (.go []) ⟨[(0,ints l),(1,iI v),(7,nI l.n),(8,nI (k + 1))],[],0⟩ ([.b (rng (((k + 1):Nat):Int))]) (aR (by omega) (by omega) aN) ?_
   refine go_again ((k + 1)) (by first | (dsimp only; omega) | omega) (by exact ⟨by omega,all_succ hR1.2 (decide_eq_false h3)⟩) (cvR hE [])
 ·refine gb 9 false (decide ((k:Int) < (l.n:Int))) (decide_eq_false h2) ?_
  refine g0 pcs_ok 1 [] (.go [cN 421,cN 211]) ⟨[],[],0⟩ ([]) aN ?_
  refine go_brk rfl rfl rfl ?_
  refine g0 pcs_ok 4 [] (.go [cN 15]) ⟨[(4,iI (-1))],[],0⟩ ([]) aN ?_
  refine go_ret rfl ?_
  refine rf ⟨[(4,iI (-1))],[],0⟩ [iI (-1)] (cvR hE []) ?_
  refine congrArg (fun x=>Ret.ret (AV.int .i64 x)) ?_
  exact (idxI_none fun j hj=>hR1.2 j (by omega)).symm
def h_iidx (args:List AV):Option (AV × List Cnd):=match args with | [.lst 1 m F,.int .i64 v]=>some (.int .i64 (idxI m (fun j=>decide (v = intOf (F j)))),[.p (isInts F),.b (decide (m < 1000000))]) | _=>none
theorem pe_iidx_ok:PCOK Tryd.prog (pcF 69 h_iidx):=pcF_ok fun args v c h hc=>by
 unfold h_iidx at h
 split at h
 ·rename_i m F x
  simp only [Option.some.injEq,Prod.mk.injEq] at h
  obtain ⟨rfl,rfl⟩:=h
  simp only [AllT,decide_eq_true_eq,and_true] at hc
  obtain ⟨g,rfl⟩:∃ g:Nat→Int,F = fun i=>[.int .i64 (g i)]:=⟨_,funext hc.1⟩
  exact ⟨rfl,Ctr.pure rfl (iidx_ctr ⟨m,g⟩ hc.2 _) rfl⟩
 ·simp at h
theorem icont_ctr (l:Arr Int) (hl:l.n < 1000000) (v:Int):Ctr Tryd.prog 61 [ints l,.int .i64 v] [] 0 (fun r _ _=>r = .ret (.bool (hasV l.n (fun i=>[AV.int .i64 (l.f i)]) v))):=by
 have hpc:=(pcOr_ok pe_iidx_ok pc0_ok)
 refine ctr_body Tryd.func61 rfl (by kernel_rfl) Tryd.ntmps61 rfl rfl fun E hE=>?_
 refine g0 hpc 12 [] (.go [cN 7]) ⟨[(4,.bool (decide ((idxI l.n (fun j=>decide (v = intOf ((fun i=>[AV.int .i64 (l.f i)]) j)))) ≥ 0)))],[],0⟩ ([.p (isInts (fun i=>[AV.int .i64 (l.f i)])),.b (decide (l.n < 1000000))]) (aP (by intro _; rfl) (aD (by first | assumption | omega | (simp_all; done) | (simp_all; omega)) aN)) ?_
 refine go_ret rfl ?_
 refine rf ⟨[(4,.bool (decide ((idxI l.n (fun j=>decide (v = intOf ((fun i=>[AV.int .i64 (l.f i)]) j)))) ≥ 0)))],[],0⟩ [.bool (decide ((idxI l.n (fun j=>decide (v = intOf ((fun i=>[AV.int .i64 (l.f i)]) j)))) ≥ 0))] (cvR hE []) ?_
 exact congrArg (fun x=>Ret.ret (AV.bool x)) (hasV_idx l v).symm
def h_icont (args:List AV):Option (AV × List Cnd):=match args with | [.lst 1 m F,.int .i64 v]=>some (.bool (hasV m F v),[.p (isInts F),.b (decide (m < 1000000))]) | _=>none
theorem pe_icont_ok:PCOK Tryd.prog (pcF 61 h_icont):=pcF_ok fun args v c h hc=>by
 unfold h_icont at h
 split at h
 ·rename_i m F x
  simp only [Option.some.injEq,Prod.mk.injEq] at h
  obtain ⟨rfl,rfl⟩:=h
  simp only [AllT,decide_eq_true_eq,and_true] at hc
  obtain ⟨g,rfl⟩:∃ g:Nat→Int,F = fun i=>[.int .i64 (g i)]:=⟨_,funext hc.1⟩
  exact ⟨rfl,Ctr.pure rfl (icont_ctr ⟨m,g⟩ hc.2 _) rfl⟩
 ·simp at h
end Go.SL
