import Derived.Test.YtgbcmddacencjaaDoorFw
import Derived.Test.YtgbcmddacencjaaDoorFrm
import Derived.Test.YtgbcmddacencjaaDoorFgm
import Derived.Test.YtgbcmddacencjaaDoorFum
set_option linter.unusedSimpArgs false
set_option linter.unusedVariables false
namespace Go.SL
open Go.Proofs
def EqA {α:Type} (l m:Arr α):Prop:=l.n < 1000000∧l.n = m.n∧∀ j,j < l.n→l.f j = m.f j
structure InfE (u v:Inf):Prop where
 n1:u.slots.n = v.slots.n
 n2:u.ends.n = v.ends.n
 n3:u.parent.n = v.parent.n
 b1:u.slots.n < 1000000∧u.ends.n < 1000000∧u.parent.n < 1000000
 s:∀ j,j < u.slots.n→EqA (u.slots.f j) (v.slots.f j)
 e:∀ j,j < u.ends.n→EqA (u.ends.f j) (v.ends.f j)
 p:∀ j,j < u.parent.n→EqA (u.parent.f j) (v.parent.f j)
theorem strings_ctr (l m:Arr ByteArray) (h:EqA l m):Ctr Tryd.prog 32 [strs l,strs m] [] 0 (fun r hp1 n1=>r = .ret (.bool true)):=by
 have hb:=h.1
 have hn:=h.2.1
 refine ctr_body Tryd.func32 rfl (by kernel_rfl) Tryd.ntmps32 rfl rfl fun E hE=>?_
 refine g0 pcs_ok 13 [] (.go [cN 13,cN 7]) ⟨[(0,strs l),(1,strs m),(10,.bool (!decide ((l.n:Int) = (m.n:Int))))],[],0⟩ ([]) aN ?_
 by_cases h1:(l.n:Int) = (m.n:Int)
 ·refine gb 10 false (!decide ((l.n:Int) = (m.n:Int))) (ndecF h1) ?_
  refine g0 pcs_ok 8 [] (.go [cN 58,.b 0,cN 15]) ⟨[(0,strs l),(1,strs m),(5,iI 0)],[],0⟩ ([]) aN ?_
  refine go_loop (fun (k:Nat)=>⟨[(0,strs l),(1,strs m),(5,nI k)],[],0⟩) (fun (k:Nat)=>k≤l.n) (fun (k:Nat)=>l.n - k) (0:Nat) rfl (by exact Nat.zero_le _) (cvR hE []) ?_
  intro k hR20
  have hR2:k≤l.n:=hR20
  refine g0 pcs_ok 8 [] (.go [cN 465,cN 233]) ⟨[(0,strs l),(1,strs m),(5,nI k),(14,.bool (decide ((k:Int) < (l.n:Int))))],[],0⟩ ([]) aN ?_
  by_cases h3:(k:Int) < (l.n:Int)
  ·refine gb 14 true (decide ((k:Int) < (l.n:Int))) (decide_eq_true h3) ?_
   refine g0 pcs_ok 6 [] (.go [cN 1865,.b 1,cN 467]) ⟨[(0,strs l),(1,strs m),(5,nI k),(25,.bool (!decide ((l.f k) = (m.f k))))],[],0⟩ ([.b (ixB (k:Int) m.n),.b (ixB (k:Int) l.n)]) (aD (by first | assumption | omega | (simp_all; done) | (simp_all; omega)) (aD (by first | assumption | omega | (simp_all; done) | (simp_all; omega)) aN)) ?_
   by_cases h4:(l.f k) = (m.f k)
   ·refine gb 25 false (!decide ((l.f k) = (m.f k))) (ndecF h4) ?_
    refine g0 pcs_ok 8 [] (.go []) ⟨[(0,strs l),(1,strs m),(5,nI (k + 1))],[],0⟩ ([.b (rng (((k + 1):Nat):Int))]) (aR (by omega) (by omega) aN) ?_
    refine go_again ((k + 1)) (by first | (dsimp only; omega) | omega) (by omega) (cvR hE [])
   ·refine gb 25 true (!decide ((l.f k) = (m.f k))) (ndec h4) ?_
    refine g0 pcs_ok 5 [] (.go [cN 7461,.b 1,cN 467]) ⟨[(4,.bool false)],[],0⟩ ([]) aN ?_
    refine go_ret rfl ?_
    refine rt_loop ?_
    refine rf ⟨[(4,.bool false)],[],0⟩ [.bool false] (cvR hE []) ?_
    first | exact rfl | (exfalso; omega) | (exfalso; have:=h.2.2 k (by omega); simp_all; done)
  ·refine gb 14 false (decide ((k:Int) < (l.n:Int))) (decide_eq_false h3) ?_
   refine g0 pcs_ok 1 [] (.go [cN 931,cN 233]) ⟨[],[],0⟩ ([]) aN ?_
   refine go_brk rfl rfl rfl ?_
   refine g0 pcs_ok 4 [] (.go [cN 31]) ⟨[(4,.bool true)],[],0⟩ ([]) aN ?_
   refine go_ret rfl ?_
   refine rf ⟨[(4,.bool true)],[],0⟩ [.bool true] (cvR hE []) ?_
   first | exact rfl | (exfalso; omega) | (exfalso; have:=h.2.2 k (by omega); simp_all; done)
 ·refine gb 10 true (!decide ((l.n:Int) = (m.n:Int))) (ndec h1) ?_
  refine g0 pcs_ok 5 [] (.go [cN 53,cN 7]) ⟨[(4,.bool false)],[],0⟩ ([]) aN ?_
  refine go_ret rfl ?_
  refine rf ⟨[(4,.bool false)],[],0⟩ [.bool false] (cvR hE []) ?_
  first | exact rfl | (exfalso; omega) | (exfalso; have:=h.2.2 k (by omega); simp_all; done)
def h_strings (args:List AV):Option (AV × List Cnd):=match args with | [v,w]=>some (.bool true,[.p (∃ l m,v = strs l∧w = strs m∧EqA l m)]) | _=>none
theorem pe_strings_ok:PCOK Tryd.prog (pcF 32 h_strings):=pcF_ok fun args v c h hc=>by
 unfold h_strings at h
 split at h
 ·simp only [Option.some.injEq,Prod.mk.injEq] at h
  obtain ⟨rfl,rfl⟩:=h
  obtain ⟨⟨l,m,rfl,rfl,hb⟩,_⟩:=hc
  exact ⟨rfl,Ctr.pure rfl (strings_ctr l m hb) rfl⟩
 ·simp at h
theorem ints_ctr (l m:Arr Int) (h:EqA l m):Ctr Tryd.prog 33 [ints l,ints m] [] 0 (fun r hp1 n1=>r = .ret (.bool true)):=by
 have hb:=h.1
 have hn:=h.2.1
 refine ctr_body Tryd.func33 rfl (by kernel_rfl) Tryd.ntmps33 rfl rfl fun E hE=>?_
 refine g0 pcs_ok 13 [] (.go [cN 13,cN 7]) ⟨[(0,ints l),(1,ints m),(10,.bool (!decide ((l.n:Int) = (m.n:Int))))],[],0⟩ ([]) aN ?_
 by_cases h1:(l.n:Int) = (m.n:Int)
 ·refine gb 10 false (!decide ((l.n:Int) = (m.n:Int))) (ndecF h1) ?_
  refine g0 pcs_ok 8 [] (.go [cN 58,.b 0,cN 15]) ⟨[(0,ints l),(1,ints m),(5,iI 0)],[],0⟩ ([]) aN ?_
  refine go_loop (fun (k:Nat)=>⟨[(0,ints l),(1,ints m),(5,nI k)],[],0⟩) (fun (k:Nat)=>k≤l.n) (fun (k:Nat)=>l.n - k) (0:Nat) rfl (by exact Nat.zero_le _) (cvR hE []) ?_
  intro k hR20
  have hR2:k≤l.n:=hR20
  refine g0 pcs_ok 8 [] (.go [cN 465,cN 233]) ⟨[(0,ints l),(1,ints m),(5,nI k),(14,.bool (decide ((k:Int) < (l.n:Int))))],[],0⟩ ([]) aN ?_
  by_cases h3:(k:Int) < (l.n:Int)
  ·refine gb 14 true (decide ((k:Int) < (l.n:Int))) (decide_eq_true h3) ?_
   refine g0 pcs_ok 6 [] (.go [cN 1865,.b 1,cN 467]) ⟨[(0,ints l),(1,ints m),(5,nI k),(25,.bool (!decide ((l.f k) = (m.f k))))],[],0⟩ ([.b (ixB (k:Int) m.n),.b (ixB (k:Int) l.n)]) (aD (by first | assumption | omega | (simp_all; done) | (simp_all; omega)) (aD (by first | assumption | omega | (simp_all; done) | (simp_all; omega)) aN)) ?_
   by_cases h4:(l.f k) = (m.f k)
   ·refine gb 25 false (!decide ((l.f k) = (m.f k))) (ndecF h4) ?_
    refine g0 pcs_ok 8 [] (.go []) ⟨[(0,ints l),(1,ints m),(5,nI (k + 1))],[],0⟩ ([.b (rng (((k + 1):Nat):Int))]) (aR (by omega) (by omega) aN) ?_
    refine go_again ((k + 1)) (by first | (dsimp only; omega) | omega) (by omega) (cvR hE [])
   ·refine gb 25 true (!decide ((l.f k) = (m.f k))) (ndec h4) ?_
    refine g0 pcs_ok 5 [] (.go [cN 7461,.b 1,cN 467]) ⟨[(4,.bool false)],[],0⟩ ([]) aN ?_
    refine go_ret rfl ?_
    refine rt_loop ?_
    refine rf ⟨[(4,.bool false)],[],0⟩ [.bool false] (cvR hE []) ?_
    first | exact rfl | (exfalso; omega) | (exfalso; have:=h.2.2 k (by omega); simp_all; done)
  ·refine gb 14 false (decide ((k:Int) < (l.n:Int))) (decide_eq_false h3) ?_
   refine g0 pcs_ok 1 [] (.go [cN 931,cN 233]) ⟨[],[],0⟩ ([]) aN ?_
   refine go_brk rfl rfl rfl ?_
   refine g0 pcs_ok 4 [] (.go [cN 31]) ⟨[(4,.bool true)],[],0⟩ ([]) aN ?_
   refine go_ret rfl ?_
   refine rf ⟨[(4,.bool true)],[],0⟩ [.bool true] (cvR hE []) ?_
   first | exact rfl | (exfalso; omega) | (exfalso; have:=h.2.2 k (by omega); simp_all; done)
 ·refine gb 10 true (!decide ((l.n:Int) = (m.n:Int))) (ndec h1) ?_
  refine g0 pcs_ok 5 [] (.go [cN 53,cN 7]) ⟨[(4,.bool false)],[],0⟩ ([]) aN ?_
  refine go_ret rfl ?_
  refine rf ⟨[(4,.bool false)],[],0⟩ [.bool false] (cvR hE []) ?_
  first | exact rfl | (exfalso; omega) | (exfalso; have:=h.2.2 k (by omega); simp_all; done)
def h_ints (args:List AV):Option (AV × List Cnd):=match args with | [v,w]=>some (.bool true,[.p (∃ l m,v = ints l∧w = ints m∧EqA l m)]) | _=>none
theorem pe_ints_ok:PCOK Tryd.prog (pcF 33 h_ints):=pcF_ok fun args v c h hc=>by
 unfold h_ints at h
 split at h
 ·simp only [Option.some.injEq,Prod.mk.injEq] at h
  obtain ⟨rfl,rfl⟩:=h
  obtain ⟨⟨l,m,rfl,rfl,hb⟩,_⟩:=hc
  exact ⟨rfl,Ctr.pure rfl (ints_ctr l m hb) rfl⟩
 ·simp at h
theorem same_ctr (u v:Inf) (h:InfE u v):Ctr Tryd.prog 17 [infA u,infA v] [] 0 (fun r hp1 n1=>r = .ret (.bool true)∧hp1 = []∧n1 = 0):=by
 have hb:=h.b1
 have hn1:=h.n1
 have hn2:=h.n2
 have hn3:=h.n3
 have hpc:=(pcOr_ok pe_strings_ok (pcOr_ok pe_ints_ok pc0_ok))
 refine ctr_body Tryd.func17 rfl (by kernel_rfl) Tryd.ntmps17 rfl rfl fun E hE=>?_
 refine g0 hpc 17 [] (.op 12 8 [cN 13,cN 7]) ⟨[(2,.ptr 0 0),(3,.ptr 1 0),(15,.bool (!decide ((u.slots.n:Int) = (v.slots.n:Int))))],[(0,.row 32 (infC u)),(1,.row 32 (infC v))],2⟩ ([]) aN ?_
 by_cases h1:(u.slots.n:Int) = (v.slots.n:Int)
 ·refine gb 15 false (!decide ((u.slots.n:Int) = (v.slots.n:Int))) (ndecF h1) ?_
  refine g0 hpc 10 [] (.op 12 17 [cN 13,cN 7]) ⟨[(2,.ptr 0 0),(3,.ptr 1 0),(24,.bool (!decide ((u.ends.n:Int) = (v.ends.n:Int))))],[(0,.row 32 (infC u)),(1,.row 32 (infC v))],2⟩ ([]) aN ?_
  by_cases h2:(u.ends.n:Int) = (v.ends.n:Int)
  ·refine gb 24 false (!decide ((u.ends.n:Int) = (v.ends.n:Int))) (ndecF h2) ?_
   refine g0 hpc 10 [] (.go [cN 13,cN 7]) ⟨[(2,.ptr 0 0),(3,.ptr 1 0),(32,.bool (!decide ((u.parent.n:Int) = (v.parent.n:Int))))],[(0,.row 32 (infC u)),(1,.row 32 (infC v))],2⟩ ([]) aN ?_
   by_cases h3:(u.parent.n:Int) = (v.parent.n:Int)
   ·refine gb 32 false (!decide ((u.parent.n:Int) = (v.parent.n:Int))) (ndecF h3) ?_
    refine g0 hpc 8 [] (.go [cN 58,.b 0,cN 15]) ⟨[(2,.ptr 0 0),(3,.ptr 1 0),(5,iI 0)],[(0,.row 32 (infC u)),(1,.row 32 (infC v))],2⟩ ([]) aN ?_
    refine go_loop (fun (k:Nat)=>⟨[(2,.ptr 0 0),(3,.ptr 1 0),(5,nI k)],[(0,.row 32 (infC u)),(1,.row 32 (infC v))],2⟩) (fun (k:Nat)=>k≤u.slots.n) (fun (k:Nat)=>u.slots.n - k) (0:Nat) rfl (by exact Nat.zero_le _) (cvR hE [0,1]) ?_
    intro k hR40
    have hR4:k≤u.slots.n:=hR40
    refine g0 hpc 9 [] (.go [cN 465,cN 233]) ⟨[(2,.ptr 0 0),(3,.ptr 1 0),(5,nI k),(37,.bool (decide ((k:Int) < (u.slots.n:Int))))],[(0,.row 32 (infC u)),(1,.row 32 (infC v))],2⟩ ([]) aN ?_
    by_cases h5:(k:Int) < (u.slots.n:Int)
    ·refine gb 37 true (decide ((k:Int) < (u.slots.n:Int))) (decide_eq_true h5) ?_
     refine g0 hpc 14 [] (.go []) ⟨[(2,.ptr 0 0),(3,.ptr 1 0),(5,nI (k + 1))],[(0,.row 32 (infC u)),(1,.row 32 (infC v))],2⟩ ([.b (rng (((k + 1):Nat):Int)),.p (∃ l m,(strs (u.slots.f k)) = strs l∧(strs (v.slots.f k)) = strs m∧EqA l m),.b (ixB (k:Int) v.slots.n),.b (ixB (k:Int) u.slots.n)]) (aR (by omega) (by omega) (aP (by first | exact ⟨u.slots.f _,v.slots.f _,rfl,rfl,h.s _ (by omega)⟩ | exact ⟨u.ends.f _,v.ends.f _,rfl,rfl,h.e _ (by omega)⟩ | exact ⟨u.parent.f _,v.parent.f _,rfl,rfl,h.p _ (by omega)⟩) (aD (by first | assumption | omega | (simp_all; done) | (simp_all; omega)) (aD (by first | assumption | omega | (simp_all; done) | (simp_all; omega)) aN)))) ?_
     refine go_again ((k + 1)) (by first | (dsimp only; omega) | omega) (by omega) (cvR hE [0,1])
    ·refine gb 37 false (decide ((k:Int) < (u.slots.n:Int))) (decide_eq_false h5) ?_
     refine g0 hpc 1 [] (.go [cN 931,cN 233]) ⟨[(2,.ptr 0 0),(3,.ptr 1 0)],[(0,.row 32 (infC u)),(1,.row 32 (infC v))],2⟩ ([]) aN ?_
     refine go_brk rfl rfl rfl ?_
     refine g0 hpc 6 [] (.go [cN 122,.b 2,cN 31]) ⟨[(2,.ptr 0 0),(3,.ptr 1 0),(6,iI 0)],[(0,.row 32 (infC u)),(1,.row 32 (infC v))],2⟩ ([]) aN ?_
     refine go_loop (fun (k:Nat)=>⟨[(2,.ptr 0 0),(3,.ptr 1 0),(6,nI k)],[(0,.row 32 (infC u)),(1,.row 32 (infC v))],2⟩) (fun (k:Nat)=>k≤u.ends.n) (fun (k:Nat)=>u.ends.n - k) (0:Nat) rfl (by exact Nat.zero_le _) (cvR hE [0,1]) ?_
     intro k hR60
     have hR6:k≤u.ends.n:=hR60
     refine g0 hpc 9 [] (.go [cN 977,cN 489]) ⟨[(2,.ptr 0 0),(3,.ptr 1 0),(6,nI k),(56,.bool (decide ((k:Int) < (u.ends.n:Int))))],[(0,.row 32 (infC u)),(1,.row 32 (infC v))],2⟩ ([]) aN ?_
     by_cases h7:(k:Int) < (u.ends.n:Int)
     ·refine gb 56 true (decide ((k:Int) < (u.ends.n:Int))) (decide_eq_true h7) ?_
      refine g0 hpc 14 [] (.go []) ⟨[(2,.ptr 0 0),(3,.ptr 1 0),(6,nI (k + 1))],[(0,.row 32 (infC u)),(1,.row 32 (infC v))],2⟩ ([.b (rng (((k + 1):Nat):Int)),.p (∃ l m,(ints (u.ends.f k)) = ints l∧(ints (v.ends.f k)) = ints m∧EqA l m),.b (ixB (k:Int) v.ends.n),.b (ixB (k:Int) u.ends.n)]) (aR (by omega) (by omega) (aP (by first | exact ⟨u.slots.f _,v.slots.f _,rfl,rfl,h.s _ (by omega)⟩ | exact ⟨u.ends.f _,v.ends.f _,rfl,rfl,h.e _ (by omega)⟩ | exact ⟨u.parent.f _,v.parent.f _,rfl,rfl,h.p _ (by omega)⟩) (aD (by first | assumption | omega | (simp_all; done) | (simp_all; omega)) (aD (by first | assumption | omega | (simp_all; done) | (simp_all; omega)) aN)))) ?_
      refine go_again ((k + 1)) (by first | (dsimp only; omega) | omega) (by omega) (cvR hE [0,1])
     ·refine gb 56 false (decide ((k:Int) < (u.ends.n:Int))) (decide_eq_false h7) ?_
      refine g0 hpc 1 [] (.go [cN 1955,cN 489]) ⟨[(2,.ptr 0 0),(3,.ptr 1 0)],[(0,.row 32 (infC u)),(1,.row 32 (infC v))],2⟩ ([]) aN ?_
      refine go_brk rfl rfl rfl ?_
      refine g0 hpc 6 [] (.go [cN 250,.b 4,cN 63]) ⟨[(2,.ptr 0 0),(3,.ptr 1 0),(7,iI 0)],[(0,.row 32 (infC u)),(1,.row 32 (infC v))],2⟩ ([]) aN ?_
      refine go_loop (fun (k:Nat)=>⟨[(2,.ptr 0 0),(3,.ptr 1 0),(7,nI k)],[(0,.row 32 (infC u)),(1,.row 32 (infC v))],2⟩) (fun (k:Nat)=>k≤u.parent.n) (fun (k:Nat)=>u.parent.n - k) (0:Nat) rfl (by exact Nat.zero_le _) (cvR hE [0,1]) ?_
      intro k hR80
      have hR8:k≤u.parent.n:=hR80
      refine g0 hpc 9 [] (.go [cN 2001,cN 1001]) ⟨[(2,.ptr 0 0),(3,.ptr 1 0),(7,nI k),(75,.bool (decide ((k:Int) < (u.parent.n:Int))))],[(0,.row 32 (infC u)),(1,.row 32 (infC v))],2⟩ ([]) aN ?_
      by_cases h9:(k:Int) < (u.parent.n:Int)
      ·refine gb 75 true (decide ((k:Int) < (u.parent.n:Int))) (decide_eq_true h9) ?_
       refine g0 hpc 14 [] (.go []) ⟨[(2,.ptr 0 0),(3,.ptr 1 0),(7,nI (k + 1))],[(0,.row 32 (infC u)),(1,.row 32 (infC v))],2⟩ ([.b (rng (((k + 1):Nat):Int)),.p (∃ l m,(ints (u.parent.f k)) = ints l∧(ints (v.parent.f k)) = ints m∧EqA l m),.b (ixB (k:Int) v.parent.n),.b (ixB (k:Int) u.parent.n)]) (aR (by omega) (by omega) (aP (by first | exact ⟨u.slots.f _,v.slots.f _,rfl,rfl,h.s _ (by omega)⟩ | exact ⟨u.ends.f _,v.ends.f _,rfl,rfl,h.e _ (by omega)⟩ | exact ⟨u.parent.f _,v.parent.f _,rfl,rfl,h.p _ (by omega)⟩) (aD (by first | assumption | omega | (simp_all; done) | (simp_all; omega)) (aD (by first | assumption | omega | (simp_all; done) | (simp_all; omega)) aN)))) ?_
       refine go_again ((k + 1)) (by first | (dsimp only; omega) | omega) (by omega) (cvR hE [0,1])
      ·refine gb 75 false (decide ((k:Int) < (u.parent.n:Int))) (decide_eq_false h9) ?_
       refine g0 hpc 1 [] (.go [cN 4003,cN 1001]) ⟨[],[],2⟩ ([]) aN ?_
       refine go_brk rfl rfl rfl ?_
       refine g0 hpc 4 [] (.go [cN 127]) ⟨[(4,.bool true)],[],2⟩ ([]) aN ?_
       refine go_ret rfl ?_
       refine rf ⟨[(4,.bool true)],[],0⟩ [.bool true] (cvR hE []) ?_
       first | exact ⟨rfl,rfl,rfl⟩ | (exfalso; omega)
   ·refine gb 32 true (!decide ((u.parent.n:Int) = (v.parent.n:Int))) (ndec h3) ?_
    refine g0 hpc 5 [] (.go [cN 53,cN 7]) ⟨[(4,.bool false)],[],2⟩ ([]) aN ?_
    refine go_ret rfl ?_
    refine rf ⟨[(4,.bool false)],[],0⟩ [.bool false] (cvR hE []) ?_
    first | exact ⟨rfl,rfl,rfl⟩ | (exfalso; omega)
  ·refine gb 24 true (!decide ((u.ends.n:Int) = (v.ends.n:Int))) (ndec h2) ?_
   refine g0 hpc 15 [] (.go [cN 53,cN 7]) ⟨[(4,.bool false)],[],2⟩ ([]) aN ?_
   refine go_ret rfl ?_
   refine rf ⟨[(4,.bool false)],[],0⟩ [.bool false] (cvR hE []) ?_
   first | exact ⟨rfl,rfl,rfl⟩ | (exfalso; omega)
 ·refine gb 15 true (!decide ((u.slots.n:Int) = (v.slots.n:Int))) (ndec h1) ?_
  refine g0 hpc 24 [] (.go [cN 53,cN 7]) ⟨[(4,.bool false)],[],2⟩ ([]) aN ?_
  refine go_ret rfl ?_
  refine rf ⟨[(4,.bool false)],[],0⟩ [.bool false] (cvR hE []) ?_
  first | exact ⟨rfl,rfl,rfl⟩ | (exfalso; omega)
end Go.SL
namespace Go.SL
theorem arrL_ofL {α:Type} {d:α} {l:List α}:arrL (ofL d l) = l:=by
 apply List.ext_getElem
 ·simp [arrL,ofL]
 ·intro i h1 h2; simp [arrL,ofL,List.getD,List.getElem?_eq_getElem h2]
theorem getD_mem {α:Type} {d:α} {l:List α} {j:Nat} (h:j < l.length):l.getD j d ∈ l:=by
 simp [List.getD,List.getElem?_eq_getElem h]
theorem addV_mem {acc:List ByteArray} {s t:ByteArray}:t ∈ addV acc s ↔ t ∈ acc∨t = s:=by
 unfold addV; split
 ·rename_i h
  constructor
  ·exact .inl
  ·rintro (h1 | rfl)
   ·exact h1
   ·rw [List.any_eq_true] at h
    obtain ⟨x,hx,e⟩:=h
    have e:=of_decide_eq_true e
    exact e ▸ hx
 ·simp
theorem addV_nd {acc:List ByteArray} {s:ByteArray} (h:acc.Nodup):(addV acc s).Nodup:=by
 unfold addV; split
 ·exact h
 ·rename_i hn
  refine List.nodup_append.2 ⟨h,by simp,?_⟩
  intro a ha b hb e
  simp only [List.mem_singleton] at hb
  subst hb; subst e
  exact hn (List.any_eq_true.2 ⟨a,ha,decide_eq_true rfl⟩)
theorem foldV_nd:∀ {vs acc:List ByteArray},acc.Nodup→(vs.foldl addV acc).Nodup
 | [],acc,h=>h
 | v :: vs,acc,h=>foldV_nd (vs:=vs) (addV_nd h)
theorem foldV_mem:∀ {vs acc:List ByteArray} {t:ByteArray},t ∈ vs.foldl addV acc ↔ t ∈ acc∨t ∈ vs
 | [],acc,t=>by simp
 | v :: vs,acc,t=>by
  rw [List.foldl_cons,foldV_mem (vs:=vs),addV_mem,List.mem_cons]
  constructor
  ·rintro ((h | h) | h) <;> simp [h]
  ·rintro (h | h | h) <;> simp [h]
theorem slots_nd:∀ {xs:List Ln} {acc:List ByteArray},acc.Nodup→(slotsF acc xs).Nodup
 | [],acc,h=>h
 | x :: xs,acc,h=>slots_nd (xs:=xs) (foldV_nd h)
theorem slots_mem:∀ {xs:List Ln} {acc:List ByteArray} {t:ByteArray},t ∈ slotsF acc xs ↔ t ∈ acc∨∃ x ∈ xs,t ∈ varsL x
 | [],acc,t=>by simp [slotsF]
 | x :: xs,acc,t=>by
  show t ∈ slotsF ((varsL x).foldl addV acc) xs ↔ _
  rw [slots_mem (xs:=xs),foldV_mem]
  simp only [List.mem_cons,exists_eq_or_imp]
  constructor
  ·rintro ((h | h) | h) <;> simp [h]
  ·rintro (h | h | h) <;> simp [h]
theorem nodup_len:∀ {l m:List ByteArray},l.Nodup→(∀ s ∈ l,s ∈ m)→l.length≤m.length
 | [],m,_,_=>Nat.zero_le _
 | a :: l,m,h,hs=>by
  have ha:a ∈ m:=hs a (by simp)
  obtain ⟨h1,h2⟩:=List.nodup_cons.1 h
  have h3:=nodup_len (l:=l) (m:=m.filter fun s=>!decide (s = a)) h2 (fun s hm=>by
   rw [List.mem_filter]
   exact ⟨hs s (by simp [hm]),by simpa using fun e:s = a=>h1 (e ▸ hm)⟩)
  have h4:(m.filter fun s=>!decide (s = a)).length < m.length:=List.length_filter_lt_length_iff_exists.2 ⟨a,ha,by simp⟩
  simp only [List.length_cons]; omega
theorem varsL_in {x:Ln} (ha:x.a ∈ vars5∨x.a = eB) (hb:x.b ∈ vars5∨x.b = eB) (hc:x.c ∈ vars5∨x.c = eB) (hg:∀ j,j < x.args.n→x.args.f j ∈ vars5):∀ s ∈ varsL x,s ∈ vars5:=by
 intro s hs
 simp only [varsL,arrL,List.mem_filter,List.mem_append,List.mem_cons,List.not_mem_nil,or_false,List.mem_map,List.mem_range,Bool.not_eq_true',decide_eq_false_iff_not] at hs
 obtain ⟨h1,h2⟩:=hs
 rcases h1 with (rfl | rfl | rfl) | ⟨j,hj,rfl⟩
 ·exact ha.resolve_right h2
 ·exact hb.resolve_right h2
 ·exact hc.resolve_right h2
 ·exact hg j hj
theorem noA_in (j:Nat) (h:j < noA.n):noA.f j ∈ vars5:=absurd h (Nat.not_lt_zero _)
theorem two_in {a b:ByteArray} (ha:a ∈ vars5) (hb:b ∈ vars5) {k:Nat} (hk:k≤2):∀ j,j < k→[a,b].getD j eB ∈ vars5
 | 0,_=>ha
 | 1,_=>hb
 | j + 2,h=>by omega
theorem one_in {a:ByteArray} (ha:a ∈ vars5) {k:Nat} (hk:k≤1):∀ j,j < k→[a].getD j eB ∈ vars5
 | 0,_=>ha
 | j + 1,h=>by omega
theorem LineS.vars {x:Ln} (h:LineS x):∀ s ∈ varsL x,s ∈ vars5:=by
 cases h with
 | simp _ h =>
  cases h with
  | const a v ha _=>exact varsL_in (.inl ha) (.inr rfl) (.inr rfl) noA_in
  | two op a b _ ha hb=>exact varsL_in (.inl ha) (.inl hb) (.inr rfl) noA_in
  | three op a b c _ ha hb hc=>exact varsL_in (.inl ha) (.inl hb) (.inl hc) noA_in
  | new a n ha _=>exact varsL_in (.inl ha) (.inr rfl) (.inr rfl) noA_in
  | fld op a b n _ ha hb _=>exact varsL_in (.inl ha) (.inl hb) (.inr rfl) noA_in
  | call a b c ha hb hc=>exact varsL_in (.inl ha) (.inr rfl) (.inr rfl) (two_in hb hc (Nat.le_refl _))
  | bind a b c k ha hb hc hk=>exact varsL_in (.inl ha) (.inr rfl) (.inr rfl) (two_in hb hc hk)
  | apply a b c k ha hb hc hk=>exact varsL_in (.inl ha) (.inl hb) (.inr rfl) (two_in hc ha hk)
  | send a b c k ha hb hc hk=>exact varsL_in (.inl ha) (.inl hb) (.inr rfl) (one_in hc hk)
  | one op a _ ha=>exact varsL_in (.inl ha) (.inr rfl) (.inr rfl) noA_in
  | final a ha=>exact varsL_in (.inl ha) (.inr rfl) (.inr rfl) noA_in
  | yield=>exact varsL_in (.inr rfl) (.inr rfl) (.inr rfl) noA_in
  | spawn a n ha _ _=>exact varsL_in (.inr rfl) (.inr rfl) (.inr rfl) (one_in ha (Nat.le_refl _))
 | iff a ha=>exact varsL_in (.inl ha) (.inr rfl) (.inr rfl) noA_in
 | els=>exact varsL_in (.inr rfl) (.inr rfl) (.inr rfl) noA_in
 | whl a ha=>exact varsL_in (.inl ha) (.inr rfl) (.inr rfl) noA_in
 | tr=>exact varsL_in (.inr rfl) (.inr rfl) (.inr rfl) noA_in
 | cat a ha=>exact varsL_in (.inl ha) (.inr rfl) (.inr rfl) noA_in
 | fin=>exact varsL_in (.inr rfl) (.inr rfl) (.inr rfl) noA_in
 | en=>exact varsL_in (.inr rfl) (.inr rfl) (.inr rfl) noA_in
theorem LineF.args {x:Ln} {F:ByteArray} (h:LineF x F):x.args.n≤8:=by
 rcases h.ut with ⟨j,hj,e⟩ | e
 ·exact (h.nt j hj e).2.1
 ·omega
theorem bal_run {ls:List Ln} (hB:Bal ls) {ops:Nat→Int} (ho:∀ i,i < ls.length→ops i = (ls.getD i lEnd).op) :
  ∃ es ps:List Int,es.length = ls.length∧ps.length = ls.length∧runB ls bs0 = ⟨es,ps,[]⟩∧AllOK ops ls bs0∧Blo ops (fun i=>es.getD i 0) (fun i=>ps.getD i 0) 0 ls.length (-1):=by
 obtain ⟨es,ps,h1,h2,h3,h4,h5⟩:=bal_fit (ops:=ops) hB bs0 0 rfl rfl (fun i hi=>by
  have hi:i < ls.length:=by simpa using hi
  rw [Nat.zero_add,ho i hi]
  simp [List.getD,List.getElem?_map,List.getElem?_eq_getElem hi])
 refine ⟨es,ps,h1,h2,by rw [h3]; rfl,h4,?_⟩
 have:=h5 (fun i=>es.getD i 0) (fun i=>ps.getD i 0) (fun i _=>by rw [Nat.zero_add]) (fun i _=>by rw [Nat.zero_add])
 rw [Nat.zero_add] at this
 exact this
structure FnB (p:Pg) (k:Nat):Prop where
 e:(endsOf p k).n = (p.funcs.f k).lines.n
 q:(parOf p k).n = (p.funcs.f k).lines.n
 blo:Blo (fun i=>((p.funcs.f k).lines.f i).op) (endsOf p k).f (parOf p k).f 0 (p.funcs.f k).lines.n (-1)
 small:(p.funcs.f k).lines.n≤60
 sl:slotsOf p k = ofL eB (slotsF (arrL (p.funcs.f k).params) (arrL (p.funcs.f k).lines))
theorem FnB.of {p:Pg} {k:Nat} {ls:List Ln} (hl:(p.funcs.f k).lines = ofL lEnd ls) (hB:Bal ls) (hm:ls.length≤60):FnB p k:=by
 obtain ⟨es,ps,h1,h2,h3,h4,h5⟩:=bal_run hB (ops:=fun i=>(ls.getD i lEnd).op) (fun i hi=>rfl)
 have hr:BSat (p.funcs.f k).lines (p.funcs.f k).lines.n = ⟨es,ps,[]⟩:=by
  rw [hl,BSat,arrL_ofL]
  rw [show (ofL lEnd ls).n = ls.length from rfl,List.take_length]; exact h3
 have he:endsOf p k = ofL 0 es:=by rw [endsOf,hr]
 have hq:parOf p k = ofL 0 ps:=by rw [parOf,hr]
 refine ⟨by rw [he,hl]; exact h1,by rw [hq,hl]; exact h2,?_,by rw [hl]; exact hm,?_⟩
 ·rw [he,hq,hl]; exact h5
 ·rw [slotsOf,SLat,List.take_of_length_le (by rw [arrL_len]; exact Nat.le_refl _)]
theorem FnOK.of {p:Pg} {k:Nat} {ls:List Ln} (hl:(p.funcs.f k).lines = ofL lEnd ls) (hB:Bal ls) (hm:ls.length≤60)
  (name:nameB (p.funcs.f k).name = true) (first:fnI p.funcs (p.funcs.f k).name = k) (dist:DistOK (p.funcs.f k).params) (pars:(p.funcs.f k).params.n≤8)
  (pin:(arrL (p.funcs.f k).params).Nodup∧∀ s ∈ arrL (p.funcs.f k).params,s ∈ vars5) (names:∀ x ∈ ls,NamesOK p x):FnOK p k:=by
 obtain ⟨es,ps,h1,h2,h3,h4,h5⟩:=bal_run hB (ops:=fun i=>(ls.getD i lEnd).op) (fun i hi=>rfl)
 have hln:(p.funcs.f k).lines.n = ls.length:=by rw [hl]; rfl
 have hlf:∀ j,j < ls.length→(p.funcs.f k).lines.f j ∈ ls:=fun j hj=>by rw [hl]; exact getD_mem hj
 have hF:∀ j,j < (p.funcs.f k).lines.n→∃ F,LineF ((p.funcs.f k).lines.f j) F:=fun j hj=>lineS_form (bal_lines hB _ (hlf j (by omega)))
 refine ⟨name,first,dist,pars,by omega,hF,fun j hj=>(hF j hj).elim fun F h=>h.args,fun j hj=>names _ (hlf j (by omega)),?_,?_,?_⟩
 ·rw [hl,arrL_ofL]; exact h4
 ·rw [hln,BSat,hl,arrL_ofL,List.take_length,h3]
 ·rw [SLat,List.take_of_length_le (by rw [arrL_len]; exact Nat.le_refl _),hl,arrL_ofL]
  have:=nodup_len (m:=vars5) (slots_nd (xs:=ls) pin.1) (fun s hs=>by
   rcases slots_mem.1 hs with h | ⟨x,hx,h⟩
   ·exact pin.2 s h
   ·exact (bal_lines hB x hx).vars s h)
  exact Nat.le_trans this (by decide)
end Go.SL
namespace Go.SL
open Go.Proofs
theorem made_names {q:Bool} {L0 L1 L2 L3:List Ln} {x:Ln} (h:LineS x):NamesOK (madeP q L0 L1 L2 L3) x:=by
 have c80:clI (madeP q L0 L1 L2 L3).classes (bs [80]) = 0:=by kernel_rfl
 have c81:clI (madeP q L0 L1 L2 L3).classes (bs [81]) = 1:=by kernel_rfl
 have f102:fnI (madeP q L0 L1 L2 L3).funcs (bs [102]) = 1:=by kernel_rfl
 have f103:fnI (madeP q L0 L1 L2 L3).funcs (bs [103]) = 2:=by kernel_rfl
 have f104:fnI (madeP q L0 L1 L2 L3).funcs (bs [104]) = 3:=by kernel_rfl
 cases h with
 | simp _ h =>
  cases h with
  | const a v ha _=>exact ⟨fun h=>absurd h (by show ¬ (1:Int) = 15; omega),fun h=>absurd h (by show ¬ ((1:Int) = 22∨(1:Int) = 32∨(1:Int) = 28∨(1:Int) = 23); omega)⟩
  | two op a b ho ha hb=>simp at ho; exact ⟨fun h=>by have h:op = 15:=h; omega,fun h=>by have h:op = 22∨op = 32∨op = 28∨op = 23:=h; omega⟩
  | three op a b c ho ha hb hc=>exact ⟨fun h=>by have h:op = 15:=h; omega,fun h=>by have h:op = 22∨op = 32∨op = 28∨op = 23:=h; omega⟩
  | new a n ha hn =>
   refine ⟨fun h=>?_,fun h=>absurd h (by show ¬ ((15:Int) = 22∨(15:Int) = 32∨(15:Int) = 28∨(15:Int) = 23); omega)⟩
   simp at hn
   rcases hn with rfl | rfl
   ·rw [c80]; omega
   ·rw [c81]; omega
  | fld op a b n ho ha hb _=>simp at ho; exact ⟨fun h=>by have h:op = 15:=h; omega,fun h=>by have h:op = 22∨op = 32∨op = 28∨op = 23:=h; omega⟩
  | call a b c ha hb hc =>
   refine ⟨fun h=>absurd h (by show ¬ (22:Int) = 15; omega),fun _=>?_⟩
   show 0≤fnI (madeP q L0 L1 L2 L3).funcs (bs [102])∧_
   rw [f102]
   exact ⟨by omega,.inl rfl⟩
  | bind a b c k ha hb hc hk =>
   refine ⟨fun h=>absurd h (by show ¬ (23:Int) = 15; omega),fun _=>?_⟩
   show 0≤fnI (madeP q L0 L1 L2 L3).funcs (bs [102])∧_
   rw [f102]
   refine ⟨by omega,?_⟩
   rcases Nat.lt_or_ge k 2 with h2 | h2
   ·exact .inr ⟨rfl,h2⟩
   ·exact .inl (show k = 2 by omega)
  | apply a b c k ha hb hc hk=>exact ⟨fun h=>absurd h (by show ¬ (24:Int) = 15; omega),fun h=>absurd h (by show ¬ ((24:Int) = 22∨(24:Int) = 32∨(24:Int) = 28∨(24:Int) = 23); omega)⟩
  | send a b c k ha hb hc hk=>exact ⟨fun h=>absurd h (by show ¬ (25:Int) = 15; omega),fun h=>absurd h (by show ¬ ((25:Int) = 22∨(25:Int) = 32∨(25:Int) = 28∨(25:Int) = 23); omega)⟩
  | one op a ho ha=>simp at ho; exact ⟨fun h=>by have h:op = 15:=h; omega,fun h=>by have h:op = 22∨op = 32∨op = 28∨op = 23:=h; omega⟩
  | final a ha =>
   refine ⟨fun h=>absurd h (by show ¬ (28:Int) = 15; omega),fun _=>?_⟩
   show 0≤fnI (madeP q L0 L1 L2 L3).funcs (bs [103])∧_
   rw [f103]
   exact ⟨by omega,.inl rfl⟩
  | yield=>exact ⟨fun h=>absurd h (by show ¬ (33:Int) = 15; omega),fun h=>absurd h (by show ¬ ((33:Int) = 22∨(33:Int) = 32∨(33:Int) = 28∨(33:Int) = 23); omega)⟩
  | spawn a n ha _ _ =>
   refine ⟨fun h=>absurd h (by show ¬ (32:Int) = 15; omega),fun _=>?_⟩
   show 0≤fnI (madeP q L0 L1 L2 L3).funcs (bs [104])∧_
   rw [f104]
   exact ⟨by omega,.inl rfl⟩
 | iff a ha=>exact ⟨fun h=>absurd h (by show ¬ (36:Int) = 15; omega),fun h=>absurd h (by show ¬ ((36:Int) = 22∨(36:Int) = 32∨(36:Int) = 28∨(36:Int) = 23); omega)⟩
 | els=>exact ⟨fun h=>absurd h (by show ¬ (37:Int) = 15; omega),fun h=>absurd h (by show ¬ ((37:Int) = 22∨(37:Int) = 32∨(37:Int) = 28∨(37:Int) = 23); omega)⟩
 | whl a ha=>exact ⟨fun h=>absurd h (by show ¬ (38:Int) = 15; omega),fun h=>absurd h (by show ¬ ((38:Int) = 22∨(38:Int) = 32∨(38:Int) = 28∨(38:Int) = 23); omega)⟩
 | tr=>exact ⟨fun h=>absurd h (by show ¬ (39:Int) = 15; omega),fun h=>absurd h (by show ¬ ((39:Int) = 22∨(39:Int) = 32∨(39:Int) = 28∨(39:Int) = 23); omega)⟩
 | cat a ha=>exact ⟨fun h=>absurd h (by show ¬ (40:Int) = 15; omega),fun h=>absurd h (by show ¬ ((40:Int) = 22∨(40:Int) = 32∨(40:Int) = 28∨(40:Int) = 23); omega)⟩
 | fin=>exact ⟨fun h=>absurd h (by show ¬ (41:Int) = 15; omega),fun h=>absurd h (by show ¬ ((41:Int) = 22∨(41:Int) = 32∨(41:Int) = 28∨(41:Int) = 23); omega)⟩
 | en=>exact ⟨fun h=>absurd h (by show ¬ (42:Int) = 15; omega),fun h=>absurd h (by show ¬ ((42:Int) = 22∨(42:Int) = 32∨(42:Int) = 28∨(42:Int) = 23); omega)⟩
theorem dist0:DistOK (ofL eB []):=⟨by show 0 < 1000000; omega,fun j hj=>absurd hj (Nat.not_lt_zero _),fun i j _ hj=>absurd hj (Nat.not_lt_zero _)⟩
theorem dist1 {a:ByteArray} (ha:nameB a = true):DistOK (ofL eB [a]):=⟨by show 1 < 1000000; omega,fun j hj=>by
 have hj:j < 1:=hj
 obtain rfl:j = 0:=by omega
 exact ha,fun i j h hj=>by have hj:j < 1:=hj; omega⟩
theorem dist2 {a b:ByteArray} (ha:nameB a = true) (hb:nameB b = true) (hn:¬ a = b):DistOK (ofL eB [a,b]):=⟨by show 2 < 1000000; omega,fun j hj=>by
 have hj:j < 2:=hj
 rcases (by omega:j = 0∨j = 1) with rfl | rfl
 ·exact ha
 ·exact hb,fun i j h hj=>by
 have hj:j < 2:=hj
 obtain ⟨rfl,rfl⟩:i = 0∧j = 1:=by omega
 exact hn⟩
theorem arr0:(arrL (ofL eB [])).Nodup∧∀ s ∈ arrL (ofL eB []),s ∈ vars5:=by rw [arrL_ofL]; simp
theorem arr1 {a:ByteArray} (ha:a ∈ vars5):(arrL (ofL eB [a])).Nodup∧∀ s ∈ arrL (ofL eB [a]),s ∈ vars5:=by rw [arrL_ofL]; simp [ha]
theorem arr2 {a b:ByteArray} (ha:a ∈ vars5) (hb:b ∈ vars5) (hn:¬ a = b):(arrL (ofL eB [a,b])).Nodup∧∀ s ∈ arrL (ofL eB [a,b]),s ∈ vars5:=by rw [arrL_ofL]; simp [ha,hb,hn]
theorem va:bs [97] ∈ vars5:=by simp [vars5]
theorem vb:bs [98] ∈ vars5:=by simp [vars5]
theorem ve:bs [101] ∈ vars5:=by simp [vars5]
theorem vc:bs [99] ∈ vars5:=by simp [vars5]
theorem nab:¬ bs [97] = bs [98]:=by decide +kernel
structure PgF (p:Pg):Prop where
 ok:PgOK p
 fb:∀ k,k < p.funcs.n→FnB p k
theorem four {P:Nat→Prop} (h0:P 0) (h1:P 1) (h2:P 2) (h3:P 3) (k:Nat) (hk:k < 4):P k:=by
 rcases (by omega:k = 0∨k = 1∨k = 2∨k = 3) with rfl | rfl | rfl | rfl <;> assumption
theorem made_ok {p:Pg} (h:MadeOK p):PgF p∧p.funcs.n = 4:=by
 obtain ⟨q,L0,L1,L2,L3,rfl,b0,b1,b2,b3,l0,l1,l2,l3⟩:=h.ex
 refine ⟨⟨⟨by show 2≤12; omega,by show 4≤24; omega,fun k hk=>?_,fun k hk=>?_,?_⟩,fun k hk=>?_⟩,rfl⟩
 ·have hk:k < 2:=hk
  rcases (by omega:k = 0∨k = 1) with rfl | rfl
  ·refine ⟨by kernel_rfl,by kernel_rfl,by show 1≤64; omega,dist1 (by decide +kernel),⟨by show 1≤64; omega,by show 1 < 1000000; omega,fun j hj=>?_,fun i j h hj=>?_⟩,fun j hj=>?_⟩
   ·have hj:j < 1:=hj
    obtain rfl:j = 0:=by omega
    show nameB (bs [109]) = true
    decide +kernel
   ·have hj:j < 1:=hj
    omega
   ·have hj:j < 1:=hj
    obtain rfl:j = 0:=by omega
    show 0≤fnI (madeP q L0 L1 L2 L3).funcs (bs [102])∧_
    have f102:fnI (madeP q L0 L1 L2 L3).funcs (bs [102]) = 1:=by kernel_rfl
    have e:(((madeP q L0 L1 L2 L3).classes.f 0).methods.f 0).func = bs [102]:=rfl
    rw [e,f102]
    exact ⟨by omega,by show 0 < 2; omega⟩
  ·cases q with
   | false =>
    refine ⟨by kernel_rfl,by kernel_rfl,by show 2≤64; omega,dist2 (by decide +kernel) (by decide +kernel) (by decide +kernel),⟨by show 0≤64; omega,by show 0 < 1000000; omega,fun j hj=>?_,fun i j h hj=>?_⟩,fun j hj=>?_⟩
    ·exact absurd hj (Nat.not_lt_zero _)
    ·exact absurd hj (Nat.not_lt_zero _)
    ·exact absurd hj (Nat.not_lt_zero _)
   | true =>
    refine ⟨by kernel_rfl,by kernel_rfl,by show 2≤64; omega,dist2 (by decide +kernel) (by decide +kernel) (by decide +kernel),⟨by show 2≤64; omega,by show 2 < 1000000; omega,fun j hj=>?_,fun i j h hj=>?_⟩,fun j hj=>?_⟩
    ·have hj:j < 2:=hj
     rcases (by omega:j = 0∨j = 1) with rfl | rfl
     ·show nameB (bs [110]) = true
      decide +kernel
     ·show nameB (bs [109]) = true
      decide +kernel
    ·have hj:j < 2:=hj
     obtain ⟨rfl,rfl⟩:i = 0∧j = 1:=by omega
     show ¬ bs [110] = bs [109]
     decide +kernel
    ·have hj:j < 2:=hj
     have f104:fnI (madeP true L0 L1 L2 L3).funcs (bs [104]) = 3:=by kernel_rfl
     have e:(((madeP true L0 L1 L2 L3).classes.f 1).methods.f j).func = bs [104]:=by rcases (by omega:j = 0∨j = 1) with rfl | rfl <;> rfl
     rw [e,f104]
     exact ⟨by omega,by show 0 < 1; omega⟩
 ·refine four (P:=FnOK (madeP q L0 L1 L2 L3)) ?_ ?_ ?_ ?_ k hk
  ·exact FnOK.of (ls:=L0) rfl b0 (by omega) (by kernel_rfl) (by kernel_rfl) dist0 (by show 0≤8; omega) arr0 fun x hx=>made_names (bal_lines b0 x hx)
  ·exact FnOK.of (ls:=L1) rfl b1 (by omega) (by kernel_rfl) (by kernel_rfl) (dist2 (by decide +kernel) (by decide +kernel) nab) (by show 2≤8; omega) (arr2 va vb nab) fun x hx=>made_names (bal_lines b1 x hx)
  ·exact FnOK.of (ls:=L2) rfl b2 (by omega) (by kernel_rfl) (by kernel_rfl) dist0 (by show 0≤8; omega) arr0 fun x hx=>made_names (bal_lines b2 x hx)
  ·exact FnOK.of (ls:=L3) rfl b3 (by omega) (by kernel_rfl) (by kernel_rfl) (dist1 (by decide +kernel)) (by show 1≤8; omega) (arr1 ve) fun x hx=>made_names (bal_lines b3 x hx)
 ·have f0:fnI (madeP q L0 L1 L2 L3).funcs (bs [109,97,105,110]) = 0:=by kernel_rfl
  rw [f0]; exact ⟨by omega,rfl⟩
 ·refine four (P:=FnB (madeP q L0 L1 L2 L3)) ?_ ?_ ?_ ?_ k hk
  ·exact FnB.of (ls:=L0) rfl b0 (by omega)
  ·exact FnB.of (ls:=L1) rfl b1 (by omega)
  ·exact FnB.of (ls:=L2) rfl b2 (by omega)
  ·exact FnB.of (ls:=L3) rfl b3 (by omega)
def exL:List Ln:=[lTry,lIf (bs [97]),⟨34,bs [97],eB,eB,eB,noA,0,0,eB⟩,lElse,⟨2,bs [98],bs [97],eB,eB,noA,0,0,eB⟩,lEnd,lCatch (bs [99]),lFin,⟨29,bs [99],eB,eB,eB,noA,0,0,eB⟩,lEnd]
def exF:Fc:=⟨bs [109,97,105,110],ofL eB [],ofL lEnd exL⟩
def exP:Pg:=⟨ofL dCl [],ofL dFc [exF]⟩
theorem exBal:Bal exL:=by
 have t:Bal [⟨34,bs [97],eB,eB,eB,noA,0,0,eB⟩]:=.simp [] _ .nil (.one 34 _ (by simp) va)
 have m:Bal [⟨2,bs [98],bs [97],eB,eB,noA,0,0,eB⟩]:=.simp [] _ .nil (.two 2 _ _ (by simp) vb va)
 have r:Bal [⟨29,bs [99],eB,eB,eB,noA,0,0,eB⟩]:=.simp [] _ .nil (.one 29 _ (by simp) vc)
 exact .tcf [] _ _ _ _ .nil vc (.ife [] _ _ _ .nil va t m) .nil r
theorem ex_ok:PgF exP:=by
 have hn:∀ x ∈ exL,NamesOK exP x:=fun x hx=>by
  simp only [exL,List.mem_cons,List.not_mem_nil,or_false] at hx
  rcases hx with rfl | rfl | rfl | rfl | rfl | rfl | rfl | rfl | rfl | rfl <;> exact ⟨by decide,by decide⟩
 refine ⟨⟨by show 0≤12; omega,by show 1≤24; omega,fun k hk=>absurd hk (Nat.not_lt_zero _),fun k hk=>?_,?_⟩,fun k hk=>?_⟩
 ·have hk:k < 1:=hk
  obtain rfl:k = 0:=by omega
  exact FnOK.of (ls:=exL) rfl exBal (by decide) (by decide +kernel) (by kernel_rfl) dist0 (by show 0≤8; omega) arr0 hn
 ·have f0:fnI exP.funcs (bs [109,97,105,110]) = 0:=by kernel_rfl
  rw [f0]; exact ⟨by omega,rfl⟩
 ·have hk:k < 1:=hk
  obtain rfl:k = 0:=by omega
  exact FnB.of (ls:=exL) rfl exBal (by decide)
theorem FnB.bound {p:Pg} {k:Nat} (h:FnB p k) (j:Nat):-1000≤(endsOf p k).f j∧(endsOf p k).f j≤1000:=by
 rcases Nat.lt_or_ge j (p.funcs.f k).lines.n with hj | hj
 ·obtain ⟨h1,h2,h3,h4,h5,h6⟩:=h.blo.f1 (by omega) j (by omega) hj
  have hs:=h.small
  constructor
  ·rcases (by omega:(36≤((p.funcs.f k).lines.f j).op∧((p.funcs.f k).lines.f j).op≤42)∨(((p.funcs.f k).lines.f j).op < 36∨42 < ((p.funcs.f k).lines.f j).op)) with hc | hc
   ·have:=h4 hc; omega
   ·have:=h5 hc; omega
  ·omega
 ·have he:=h.e
  have:(endsOf p k).f j = 0:=by
   show List.getD _ j 0 = 0
   rw [List.getD_eq_getElem?_getD,List.getElem?_eq_none]; rfl
   have:(endsOf p k).n = (BSat (p.funcs.f k).lines (p.funcs.f k).lines.n).e.length:=rfl
   omega
  omega
theorem map_getD {α:Type} {f:Nat→α} {n k:Nat} {d:α}:((List.range n).map f).getD k d = if k < n then f k else d:=by
 split
 ·rename_i h; simp [List.getD,List.getElem?_map,List.getElem?_range h]
 ·rename_i h; rw [List.getD_eq_getElem?_getD,List.getElem?_eq_none (by simpa using h)]; rfl
theorem inf_ends {p:Pg} {k:Nat} (h:k < p.funcs.n):(infOf p).ends.f k = endsOf p k:=by show List.getD _ k _ = _; rw [map_getD,if_pos h]
theorem inf_par {p:Pg} {k:Nat} (h:k < p.funcs.n):(infOf p).parent.f k = parOf p k:=by show List.getD _ k _ = _; rw [map_getD,if_pos h]
theorem inf_slots {p:Pg} {k:Nat} (h:k < p.funcs.n):(infOf p).slots.f k = slotsOf p k:=by show List.getD _ k _ = _; rw [map_getD,if_pos h]
theorem inf_n {p:Pg}:(infOf p).ends.n = p.funcs.n∧(infOf p).parent.n = p.funcs.n∧(infOf p).slots.n = p.funcs.n:=by simp [infOf,ofL]
theorem PgF.inf {p:Pg} (h:PgF p) (hl:∀ k,p.funcs.n≤k→(p.funcs.f k).lines.n < 1000):InfB p (infOf p):=by
 refine ⟨h.ok.b,fun f=>?_,fun f k=>?_,fun f=>?_⟩
 ·rcases Nat.lt_or_ge f p.funcs.n with hf | hf
  ·have:=(h.fb f hf).small; omega
  ·exact hl f hf
 ·rcases Nat.lt_or_ge f p.funcs.n with hf | hf
  ·rw [inf_ends hf]; exact (h.fb f hf).bound k
  ·have:(infOf p).ends.f f = dIs:=by show List.getD _ f _ = _; rw [map_getD,if_neg (by omega)]
   rw [this]; show -1000≤(0:Int)∧(0:Int)≤1000; omega
 ·rcases Nat.lt_or_ge f p.funcs.n with hf | hf
  ·rw [inf_slots hf]
   have:=(h.ok.fns f hf).slots
   show (SLat _ _ _).length < 1000
   omega
  ·have:(infOf p).slots.f f = dSs:=by show List.getD _ f _ = _; rw [map_getD,if_neg (by omega)]
   rw [this]; show 0 < 1000; omega
theorem getD_out {α:Type} {l:List α} {d:α} {k:Nat} (h:l.length≤k):l.getD k d = d:=by rw [List.getD_eq_getElem?_getD,List.getElem?_eq_none h]; rfl
theorem ex_inf:InfB exP (infOf exP):=ex_ok.inf fun k hk=>by
 have:exP.funcs.f k = dFc:=getD_out hk
 rw [this]; show 0 < 1000; omega
theorem made_inf {p:Pg} (h:MadeOK p):InfB p (infOf p):=(made_ok h).1.inf fun k hk=>by
 obtain ⟨q,L0,L1,L2,L3,rfl,_⟩:=h.ex
 have:(madeP q L0 L1 L2 L3).funcs.f k = dFc:=getD_out hk
 rw [this]; show 0 < 1000; omega
end Go.SL
namespace Go.SL
open Go.Proofs
theorem example_ctr:Ctr Tryd.prog 16 [] [] 0 (fun r hp1 n1=>r = .ret (pgA exP)∧hp1 = []∧n1 = 1):=by
 refine ctr_body Tryd.func16 rfl (by kernel_rfl) Tryd.ntmps16 rfl rfl fun E hE=>?_
 refine g0 pcs_ok 17 [] (.op 6 11 [cN 7]) ⟨[(0,.ptr 0 0),(11,.slice 1 0 10 9)],[(0,.row 27 [.nilSlice,.nilSlice]),(1,.row 45 [iI 39,.str (bs []),.str (bs []),.str (bs []),.str (bs []),.nilSlice,iI 0,iI 0,.str (bs []),iI 36,.str (bs [97]),.str (bs []),.str (bs []),.str (bs []),.nilSlice,iI 0,iI 0,.str (bs []),iI 34,.str (bs [97]),.str (bs []),.str (bs []),.str (bs []),.nilSlice,iI 0,iI 0,.str (bs []),iI 37,.str (bs []),.str (bs []),.str (bs []),.str (bs []),.nilSlice,iI 0,iI 0,.str (bs []),iI 2,.str (bs [98]),.str (bs [97]),.str (bs []),.str (bs []),.nilSlice,iI 0,iI 0,.str (bs []),iI 42,.str (bs []),.str (bs []),.str (bs []),.str (bs []),.nilSlice,iI 0,iI 0,.str (bs []),iI 40,.str (bs [99]),.str (bs []),.str (bs []),.str (bs []),.nilSlice,iI 0,iI 0,.str (bs []),iI 41,.str (bs []),.str (bs []),.str (bs []),.str (bs []),.nilSlice,iI 0,iI 0,.str (bs []),iI 29,.str (bs [99]),.str (bs []),.str (bs []),.str (bs []),.nilSlice,iI 0,iI 0,.str (bs []),iI 42,.str (bs []),.str (bs []),.str (bs []),.str (bs []),.nilSlice,iI 0,iI 0,.str (bs [])])],2⟩ ([]) aN ?_
 refine go_to ⟨[(0,.ptr 0 0),(11,.slice 1 0 10 9)],[(0,.row 27 [.nilSlice,.nilSlice]),(1,.row 45 [iI 39,.str (bs []),.str (bs []),.str (bs []),.str (bs []),strs noA,iI 0,iI 0,.str (bs []),iI 36,.str (bs [97]),.str (bs []),.str (bs []),.str (bs []),strs noA,iI 0,iI 0,.str (bs []),iI 34,.str (bs [97]),.str (bs []),.str (bs []),.str (bs []),strs noA,iI 0,iI 0,.str (bs []),iI 37,.str (bs []),.str (bs []),.str (bs []),.str (bs []),strs noA,iI 0,iI 0,.str (bs []),iI 2,.str (bs [98]),.str (bs [97]),.str (bs []),.str (bs []),strs noA,iI 0,iI 0,.str (bs []),iI 42,.str (bs []),.str (bs []),.str (bs []),.str (bs []),strs noA,iI 0,iI 0,.str (bs []),iI 40,.str (bs [99]),.str (bs []),.str (bs []),.str (bs []),strs noA,iI 0,iI 0,.str (bs []),iI 41,.str (bs []),.str (bs []),.str (bs []),.str (bs []),strs noA,iI 0,iI 0,.str (bs []),iI 29,.str (bs [99]),.str (bs []),.str (bs []),.str (bs []),strs noA,iI 0,iI 0,.str (bs []),iI 42,.str (bs []),.str (bs []),.str (bs []),.str (bs []),strs noA,iI 0,iI 0,.str (bs [])])],2⟩ (cvM hE [0,1] toFR ⟨rR,rL (.row 45 [iI 39,.str (bs []),.str (bs []),.str (bs []),.str (bs []),.nilSlice,iI 0,iI 0,.str (bs []),iI 36,.str (bs [97]),.str (bs []),.str (bs []),.str (bs []),.nilSlice,iI 0,iI 0,.str (bs []),iI 34,.str (bs [97]),.str (bs []),.str (bs []),.str (bs []),.nilSlice,iI 0,iI 0,.str (bs []),iI 37,.str (bs []),.str (bs []),.str (bs []),.str (bs []),.nilSlice,iI 0,iI 0,.str (bs []),iI 2,.str (bs [98]),.str (bs [97]),.str (bs []),.str (bs []),.nilSlice,iI 0,iI 0,.str (bs []),iI 42,.str (bs []),.str (bs []),.str (bs []),.str (bs []),.nilSlice,iI 0,iI 0,.str (bs []),iI 40,.str (bs [99]),.str (bs []),.str (bs []),.str (bs []),.nilSlice,iI 0,iI 0,.str (bs []),iI 41,.str (bs []),.str (bs []),.str (bs []),.str (bs []),.nilSlice,iI 0,iI 0,.str (bs []),iI 29,.str (bs [99]),.str (bs []),.str (bs []),.str (bs []),.nilSlice,iI 0,iI 0,.str (bs []),iI 42,.str (bs []),.str (bs []),.str (bs []),.str (bs []),.nilSlice,iI 0,iI 0,.str (bs [])]) (LeB.row _ ⟨Le.refl _,Le.refl _,Le.refl _,Le.refl _,Le.refl _,Le.nil_lst _ _,Le.refl _,Le.refl _,Le.refl _,Le.refl _,Le.refl _,Le.refl _,Le.refl _,Le.refl _,Le.nil_lst _ _,Le.refl _,Le.refl _,Le.refl _,Le.refl _,Le.refl _,Le.refl _,Le.refl _,Le.refl _,Le.nil_lst _ _,Le.refl _,Le.refl _,Le.refl _,Le.refl _,Le.refl _,Le.refl _,Le.refl _,Le.refl _,Le.nil_lst _ _,Le.refl _,Le.refl _,Le.refl _,Le.refl _,Le.refl _,Le.refl _,Le.refl _,Le.refl _,Le.nil_lst _ _,Le.refl _,Le.refl _,Le.refl _,Le.refl _,Le.refl _,Le.refl _,Le.refl _,Le.refl _,Le.nil_lst _ _,Le.refl _,Le.refl _,Le.refl _,Le.refl _,Le.refl _,Le.refl _,Le.refl _,Le.refl _,Le.nil_lst _ _,Le.refl _,Le.refl _,Le.refl _,Le.refl _,Le.refl _,Le.refl _,Le.refl _,Le.refl _,Le.nil_lst _ _,Le.refl _,Le.refl _,Le.refl _,Le.refl _,Le.refl _,Le.refl _,Le.refl _,Le.refl _,Le.nil_lst _ _,Le.refl _,Le.refl _,Le.refl _,Le.refl _,Le.refl _,Le.refl _,Le.refl _,Le.refl _,Le.nil_lst _ _,Le.refl _,Le.refl _,Le.refl _,trivial⟩),toHR⟩) ?_
 refine go_to _ (cv_freezeW 1 9 45 ([iI 39,.str (bs []),.str (bs []),.str (bs []),.str (bs []),strs noA,iI 0,iI 0,.str (bs []),iI 36,.str (bs [97]),.str (bs []),.str (bs []),.str (bs []),strs noA,iI 0,iI 0,.str (bs []),iI 34,.str (bs [97]),.str (bs []),.str (bs []),.str (bs []),strs noA,iI 0,iI 0,.str (bs []),iI 37,.str (bs []),.str (bs []),.str (bs []),.str (bs []),strs noA,iI 0,iI 0,.str (bs []),iI 2,.str (bs [98]),.str (bs [97]),.str (bs []),.str (bs []),strs noA,iI 0,iI 0,.str (bs []),iI 42,.str (bs []),.str (bs []),.str (bs []),.str (bs []),strs noA,iI 0,iI 0,.str (bs []),iI 40,.str (bs [99]),.str (bs []),.str (bs []),.str (bs []),strs noA,iI 0,iI 0,.str (bs []),iI 41,.str (bs []),.str (bs []),.str (bs []),.str (bs []),strs noA,iI 0,iI 0,.str (bs []),iI 29,.str (bs [99]),.str (bs []),.str (bs []),.str (bs []),strs noA,iI 0,iI 0,.str (bs []),iI 42,.str (bs []),.str (bs []),.str (bs []),.str (bs []),strs noA,iI 0,iI 0,.str (bs [])]) 10 (fun z_=>lnC (List.getD exL z_ lEnd)) [] [10] (by kernel_rfl) (by kernel_rfl) (by kernel_rfl) (fun i hi=>by match i,hi with | 0,_=>rfl | 1,_=>rfl | 2,_=>rfl | 3,_=>rfl | 4,_=>rfl | 5,_=>rfl | 6,_=>rfl | 7,_=>rfl | 8,_=>rfl | 9,_=>rfl | k + 10,h=>exact absurd h (by omega)) (by kernel_rfl) (by simp; try omega)) ?_
 refine g0 pcs_ok 3 [] (.op 6 13 [cN 7]) ⟨[(0,.ptr 0 0),(13,.slice 2 0 1 3)],[(0,.row 27 [.nilSlice,.nilSlice]),(2,.row 41 [.str (bs [109,97,105,110]),.nilSlice,.lst 9 10 (fun z_=>lnC (List.getD exL z_ lEnd))])],3⟩ ([]) aN ?_
 refine go_to ⟨[(0,.ptr 0 0),(13,.slice 2 0 1 3)],[(0,.row 27 [.nilSlice,.nilSlice]),(2,.row 41 [.str (bs [109,97,105,110]),strs (ofL eB []),.lst 9 10 (fun z_=>lnC (List.getD exL z_ lEnd))])],3⟩ (cvM hE [0,1,2] toFR ⟨rR,rL (.row 41 [.str (bs [109,97,105,110]),.nilSlice,.lst 9 10 (fun z_=>lnC (List.getD exL z_ lEnd))]) (LeB.row _ ⟨Le.refl _,Le.nil_lst _ _,Le.refl _,trivial⟩),toHR⟩) ?_
 refine go_to _ (cv_freezeW 2 3 41 ([.str (bs [109,97,105,110]),strs (ofL eB []),.lst 9 10 (fun z_=>lnC (List.getD exL z_ lEnd))]) 1 (fun z_=>fcC (List.getD [exF] z_ dFc)) [] [1] (by kernel_rfl) (by kernel_rfl) (by kernel_rfl) (fun i hi=>by match i,hi with | 0,_=>rfl | k + 1,h=>exact absurd h (by omega)) (by kernel_rfl) (by simp; try omega)) ?_
 refine g0 pcs_ok 4 [] (.go [cN 7]) ⟨[(0,.ptr 0 0)],[(0,.row 27 [.nilSlice,.lst 3 1 (fun z_=>fcC (List.getD [exF] z_ dFc))])],3⟩ ([.b true]) (aT aN) ?_
 refine go_ret rfl ?_
 refine rfC ⟨[(0,.ptr 0 0)],[(0,.row 27 (pgC exP))],1⟩ [] [pgA exP] (cvM hE [0] toFR ⟨rL (.row 27 [.nilSlice,.lst 3 1 (fun z_=>fcC (List.getD [exF] z_ dFc))]) (LeB.row _ ⟨Le.nil_lst _ _,Le.refl _,trivial⟩),toHR⟩) ?_
 exact ⟨rfl,rfl,rfl⟩
theorem at_ctr (k:Int) :Ctr Tryd.prog 18 [iI k] [] 0 (fun r _ _=>r = .ret (.agg [iI 0,.int .i64 k])):=by
 refine ctr_body Tryd.func18 rfl (by kernel_rfl) Tryd.ntmps18 rfl rfl fun E hE=>?_
 refine g0 pcs_ok 10 [] (.go [cN 7]) ⟨[(2,.ptr 0 0)],[(0,.row 34 [iI 0,iI k])],1⟩ ([.b true]) (aT aN) ?_
 refine go_ret rfl ?_
 refine rfC ⟨[(2,.ptr 0 0)],[(0,.row 34 [iI 0,iI k])],1⟩ [] [.agg [iI 0,iI k]] (cvR hE [0]) ?_
 rfl
def h_at (args:List AV):Option (AV × List Cnd):=match args with | [.int .i64 k]=>some (.agg [iI 0,.int .i64 k],[]) | _=>none
theorem pe_at_ok:PCOK Tryd.prog (pcF 18 h_at):=pcF_ok fun args v c h hc=>by
 unfold h_at at h
 split at h
 ·simp only [Option.some.injEq,Prod.mk.injEq] at h
  obtain ⟨rfl,rfl⟩:=h
  exact ⟨rfl,Ctr.pure rfl (at_ctr _) rfl⟩
 ·simp at h
def wS:List ByteArray:=[bs [97],bs [98],bs [99]]
def wE:List Int:=[6,3,-1,5,-1,1,7,9,-1,0]
def wQ:List Int:=[-1,0,1,0,3,0,-1,-1,7,-1]
def wantI:Inf:=⟨ofL dSs [ofL eB wS],ofL dIs [ofL 0 wE],ofL dIs [ofL 0 wQ]⟩
abbrev exI:Inf:=infOf exP
theorem ex_sl:slotsOf exP 0 = ofL eB wS:=congrArg (ofL eB) (by decide +kernel:SLat exF.params exF.lines exF.lines.n = wS)
theorem ex_en:endsOf exP 0 = ofL 0 wE:=congrArg (ofL 0) (by decide +kernel:(BSat exF.lines exF.lines.n).e = wE)
theorem ex_pa:parOf exP 0 = ofL 0 wQ:=congrArg (ofL 0) (by decide +kernel:(BSat exF.lines exF.lines.n).p = wQ)
theorem eqA_refl {α:Type} {l:Arr α} (h:l.n < 1000000):EqA l l:=⟨h,rfl,fun _ _=>rfl⟩
theorem ex_same:InfE exI wantI:=by
 refine ⟨rfl,rfl,rfl,⟨by show 1 < 1000000; omega,by show 1 < 1000000; omega,by show 1 < 1000000; omega⟩,fun j hj=>?_,fun j hj=>?_,fun j hj=>?_⟩
 ·have hj:j < 1:=hj
  obtain rfl:j = 0:=by omega
  rw [inf_slots (show 0 < exP.funcs.n from Nat.zero_lt_one),ex_sl]
  exact eqA_refl (by show 3 < 1000000; omega)
 ·have hj:j < 1:=hj
  obtain rfl:j = 0:=by omega
  rw [inf_ends (show 0 < exP.funcs.n from Nat.zero_lt_one),ex_en]
  exact eqA_refl (by show 10 < 1000000; omega)
 ·have hj:j < 1:=hj
  obtain rfl:j = 0:=by omega
  rw [inf_par (show 0 < exP.funcs.n from Nat.zero_lt_one),ex_pa]
  exact eqA_refl (by show 10 < 1000000; omega)
theorem sanity_ctr:Ctr Tryd.prog 7 [] [] 0 (fun r hp1 n1=>r = .ret (.bool true)∧hp1 = []∧n1 = 0):=by
 have hpc:=(pcOr_ok (pe_catch_ok exP exI) (pcOr_ok (pe_fin_ok exP exI) (pcOr_ok (pe_cnext_ok exP exI) (pcOr_ok (pe_cskip_ok exP exI) (pcOr_ok pe_at_ok pc0_ok)))))
 refine ctr_body Tryd.func7 rfl (by kernel_rfl) Tryd.ntmps7 rfl rfl fun E hE=>?_
 refine g0 hpc 6 [] (.op 6 0 [cN 7]) ⟨[],[],0⟩ ([]) aN ?_
 refine gc (d:=some 19) [] example_ctr ?_
 rintro _ _ _ _ ⟨⟨⟩,rfl,rfl⟩
 refine g0 hpc 7 [] (.op 14 1 [cN 15]) ⟨[(1,.ptr 1 0),(21,pgA exP)],[(1,.row 27 (pgC exP))],2⟩ ([.b true]) (aT aN) ?_
 refine gc (d:=some 22) [] (check_ctr exP ex_ok.ok) ?_
 rintro _ _ _ _ ⟨⟨⟩,rfl,rfl⟩
 refine g0 hpc 14 [] (.op 30 1 [cN 31]) ⟨[(1,.ptr 1 0),(2,.ptr 6 0),(4,iI 0),(26,.slice 8 0 3 1)],[(1,.row 27 (pgC exP)),(6,.row 32 [strss ((infOf exP).slots),intss ((infOf exP).ends),intss ((infOf exP).parent)]),(8,.row 9 [.str (bs [97]),.str (bs [98]),.str (bs [99])])],9⟩ ([.b true,.b true]) (aT (aT aN)) ?_
 refine go_to _ (cv_freezeW 8 1 9 ([.str (bs [97]),.str (bs [98]),.str (bs [99])]) 3 (fun z_=>[AV.str (List.getD wS z_ eB)]) [] [3] (by kernel_rfl) (by kernel_rfl) (by kernel_rfl) (fun i hi=>by match i,hi with | 0,_=>rfl | 1,_=>rfl | 2,_=>rfl | k + 3,h=>exact absurd h (by omega)) (by kernel_rfl) (by simp; try omega)) ?_
 refine g0 hpc 2 [] (.op 30 2 [cN 31]) ⟨[(1,.ptr 1 0),(2,.ptr 6 0),(4,iI 0),(27,.slice 9 0 1 1)],[(1,.row 27 (pgC exP)),(6,.row 32 [strss ((infOf exP).slots),intss ((infOf exP).ends),intss ((infOf exP).parent)]),(9,.row 38 [.lst 1 3 (fun z_=>[AV.str (List.getD wS z_ eB)])])],10⟩ ([]) aN ?_
 refine go_to _ (cv_freezeW 9 1 38 ([.lst 1 3 (fun z_=>[AV.str (List.getD wS z_ eB)])]) 1 (fun z_=>[strs (List.getD [ofL eB wS] z_ dSs)]) [] [1] (by kernel_rfl) (by kernel_rfl) (by kernel_rfl) (fun i hi=>by match i,hi with | 0,_=>rfl | k + 1,h=>exact absurd h (by omega)) (by kernel_rfl) (by simp; try omega)) ?_
 refine g0 hpc 2 [] (.op 30 3 [cN 31]) ⟨[(1,.ptr 1 0),(2,.ptr 6 0),(4,iI 0),(27,.lst 1 1 (fun z_=>[strs (List.getD [ofL eB wS] z_ dSs)])),(28,.slice 10 0 10 1)],[(1,.row 27 (pgC exP)),(6,.row 32 [strss ((infOf exP).slots),intss ((infOf exP).ends),intss ((infOf exP).parent)]),(10,.row 3 [iI 6,iI 3,iI (-1),iI 5,iI (-1),iI 1,iI 7,iI 9,iI (-1),iI 0])],11⟩ ([]) aN ?_
 refine go_to _ (cv_freezeW 10 1 3 ([iI 6,iI 3,iI (-1),iI 5,iI (-1),iI 1,iI 7,iI 9,iI (-1),iI 0]) 10 (fun z_=>[AV.int .i64 (List.getD wE z_ 0)]) [] [10] (by kernel_rfl) (by kernel_rfl) (by kernel_rfl) (fun i hi=>by match i,hi with | 0,_=>rfl | 1,_=>rfl | 2,_=>rfl | 3,_=>rfl | 4,_=>rfl | 5,_=>rfl | 6,_=>rfl | 7,_=>rfl | 8,_=>rfl | 9,_=>rfl | k + 10,h=>exact absurd h (by omega)) (by kernel_rfl) (by simp; try omega)) ?_
 refine g0 hpc 2 [] (.op 30 4 [cN 31]) ⟨[(1,.ptr 1 0),(2,.ptr 6 0),(4,iI 0),(27,.lst 1 1 (fun z_=>[strs (List.getD [ofL eB wS] z_ dSs)])),(29,.slice 11 0 1 1)],[(1,.row 27 (pgC exP)),(6,.row 32 [strss ((infOf exP).slots),intss ((infOf exP).ends),intss ((infOf exP).parent)]),(11,.row 22 [.lst 1 10 (fun z_=>[AV.int .i64 (List.getD wE z_ 0)])])],12⟩ ([]) aN ?_
 refine go_to _ (cv_freezeW 11 1 22 ([.lst 1 10 (fun z_=>[AV.int .i64 (List.getD wE z_ 0)])]) 1 (fun z_=>[ints (List.getD [ofL 0 wE] z_ dIs)]) [] [1] (by kernel_rfl) (by kernel_rfl) (by kernel_rfl) (fun i hi=>by match i,hi with | 0,_=>rfl | k + 1,h=>exact absurd h (by omega)) (by kernel_rfl) (by simp; try omega)) ?_
 refine g0 hpc 2 [] (.op 30 5 [cN 31]) ⟨[(1,.ptr 1 0),(2,.ptr 6 0),(4,iI 0),(27,.lst 1 1 (fun z_=>[strs (List.getD [ofL eB wS] z_ dSs)])),(29,.lst 1 1 (fun z_=>[ints (List.getD [ofL 0 wE] z_ dIs)])),(30,.slice 12 0 10 1)],[(1,.row 27 (pgC exP)),(6,.row 32 [strss ((infOf exP).slots),intss ((infOf exP).ends),intss ((infOf exP).parent)]),(12,.row 3 [iI (-1),iI 0,iI 1,iI 0,iI 3,iI 0,iI (-1),iI (-1),iI 7,iI (-1)])],13⟩ ([]) aN ?_
 refine go_to _ (cv_freezeW 12 1 3 ([iI (-1),iI 0,iI 1,iI 0,iI 3,iI 0,iI (-1),iI (-1),iI 7,iI (-1)]) 10 (fun z_=>[AV.int .i64 (List.getD wQ z_ 0)]) [] [10] (by kernel_rfl) (by kernel_rfl) (by kernel_rfl) (fun i hi=>by match i,hi with | 0,_=>rfl | 1,_=>rfl | 2,_=>rfl | 3,_=>rfl | 4,_=>rfl | 5,_=>rfl | 6,_=>rfl | 7,_=>rfl | 8,_=>rfl | 9,_=>rfl | k + 10,h=>exact absurd h (by omega)) (by kernel_rfl) (by simp; try omega)) ?_
 refine g0 hpc 2 [] (.op 30 6 [cN 31]) ⟨[(1,.ptr 1 0),(2,.ptr 6 0),(4,iI 0),(27,.lst 1 1 (fun z_=>[strs (List.getD [ofL eB wS] z_ dSs)])),(29,.lst 1 1 (fun z_=>[ints (List.getD [ofL 0 wE] z_ dIs)])),(31,.slice 13 0 1 1)],[(1,.row 27 (pgC exP)),(6,.row 32 [strss ((infOf exP).slots),intss ((infOf exP).ends),intss ((infOf exP).parent)]),(13,.row 22 [.lst 1 10 (fun z_=>[AV.int .i64 (List.getD wQ z_ 0)])])],14⟩ ([]) aN ?_
 refine go_to _ (cv_freezeW 13 1 22 ([.lst 1 10 (fun z_=>[AV.int .i64 (List.getD wQ z_ 0)])]) 1 (fun z_=>[ints (List.getD [ofL 0 wQ] z_ dIs)]) [] [1] (by kernel_rfl) (by kernel_rfl) (by kernel_rfl) (fun i hi=>by match i,hi with | 0,_=>rfl | k + 1,h=>exact absurd h (by omega)) (by kernel_rfl) (by simp; try omega)) ?_
 refine g0 hpc 13 [] (.op 124 5 [cN 125,cN 63]) ⟨[(1,.ptr 1 0),(2,.ptr 6 0),(35,.bool false),(36,.agg [strss ((infOf exP).slots),intss ((infOf exP).ends),intss ((infOf exP).parent)]),(37,.agg [.lst 1 1 (fun z_=>[strs (List.getD [ofL eB wS] z_ dSs)]),.lst 1 1 (fun z_=>[ints (List.getD [ofL 0 wE] z_ dIs)]),.lst 1 1 (fun z_=>[ints (List.getD [ofL 0 wQ] z_ dIs)])])],[(1,.row 27 (pgC exP)),(6,.row 32 [strss ((infOf exP).slots),intss ((infOf exP).ends),intss ((infOf exP).parent)])],15⟩ ([.b true]) (aT aN) ?_
 refine gc (d:=some 38) [] (same_ctr exI wantI ex_same) ?_
 rintro _ _ _ _ ⟨⟨⟩,rfl,rfl⟩
 refine g0 hpc 20 [(83,.bool true),(91,.bool true),(99,.bool true),(107,.bool true),(111,.bool true),(115,.bool true),(119,.bool true),(122,.bool true),(126,.bool true),(130,.bool true),(133,.bool true)] (.go [cN 4095]) ⟨[(0,.bool (!(finF exP exI 0 8).2))],[],15⟩ ([.p ((AV.bool ((finF exP exI 0 2).2)) = (AV.bool true)),.p ((AV.bool (decide ((finF exP exI 0 2).1 = 8))) = (AV.bool true)),.p ((AV.bool (!(catF exP exI 0 8).ok)) = (AV.bool true)),.p ((AV.bool ((catF exP exI 0 2).ok)) = (AV.bool true)),.p ((AV.bool (!(catF exP exI 0 2).fi)) = (AV.bool true)),.p ((AV.bool (decide ((catF exP exI 0 2).s = 2))) = (AV.bool true)),.p ((AV.bool (decide ((catF exP exI 0 2).t = 7))) = (AV.bool true)),.p ((AV.bool (decide ((skipF exP exI 0 1) = 4))) = (AV.bool true)),.p ((pgA exP) = pgA exP),.p ((AV.agg [strss ((infOf exP).slots),intss ((infOf exP).ends),intss ((infOf exP).parent)]) = infA exI),.p (InfB exP exI),.p ((AV.bool (decide ((nextF exP exI 0 2) = (-1)))) = (AV.bool true)),.p ((pgA exP) = pgA exP),.p ((AV.agg [strss ((infOf exP).slots),intss ((infOf exP).ends),intss ((infOf exP).parent)]) = infA exI),.p (InfB exP exI),.p ((AV.bool (decide ((nextF exP exI 0 6) = 7))) = (AV.bool true)),.p ((pgA exP) = pgA exP),.p ((AV.agg [strss ((infOf exP).slots),intss ((infOf exP).ends),intss ((infOf exP).parent)]) = infA exI),.p (InfB exP exI),.p ((AV.bool (decide ((nextF exP exI 0 3) = 6))) = (AV.bool true)),.p ((pgA exP) = pgA exP),.p ((AV.agg [strss ((infOf exP).slots),intss ((infOf exP).ends),intss ((infOf exP).parent)]) = infA exI),.p (InfB exP exI),.p ((pgA exP) = pgA exP),.p ((AV.agg [strss ((infOf exP).slots),intss ((infOf exP).ends),intss ((infOf exP).parent)]) = infA exI),.p (InfB exP exI),.p ((pgA exP) = pgA exP),.p ((AV.agg [strss ((infOf exP).slots),intss ((infOf exP).ends),intss ((infOf exP).parent)]) = infA exI),.p (InfB exP exI),.p ((pgA exP) = pgA exP),.p ((AV.agg [strss ((infOf exP).slots),intss ((infOf exP).ends),intss ((infOf exP).parent)]) = infA exI),.p (InfB exP exI),.p ((pgA exP) = pgA exP),.p ((AV.agg [strss ((infOf exP).slots),intss ((infOf exP).ends),intss ((infOf exP).parent)]) = infA exI),.p (InfB exP exI)]) (aP (by exact congrArg AV.bool (by kernel_rfl)) (aP (by exact congrArg AV.bool (by kernel_rfl)) (aP (by exact congrArg AV.bool (by kernel_rfl)) (aP (by exact congrArg AV.bool (by kernel_rfl)) (aP (by exact congrArg AV.bool (by kernel_rfl)) (aP (by exact congrArg AV.bool (by kernel_rfl)) (aP (by exact congrArg AV.bool (by kernel_rfl)) (aP (by exact congrArg AV.bool (by kernel_rfl)) (aP (by rfl) (aP (by rfl) (aP (by exact ex_inf) (aP (by exact congrArg AV.bool (by kernel_rfl)) (aP (by rfl) (aP (by rfl) (aP (by exact ex_inf) (aP (by exact congrArg AV.bool (by kernel_rfl)) (aP (by rfl) (aP (by rfl) (aP (by exact ex_inf) (aP (by exact congrArg AV.bool (by kernel_rfl)) (aP (by rfl) (aP (by rfl) (aP (by exact ex_inf) (aP (by rfl) (aP (by rfl) (aP (by exact ex_inf) (aP (by rfl) (aP (by rfl) (aP (by exact ex_inf) (aP (by rfl) (aP (by rfl) (aP (by exact ex_inf) (aP (by rfl) (aP (by rfl) (aP (by exact ex_inf) aN))))))))))))))))))))))))))))))))))) ?_
 refine go_ret rfl ?_
 refine rf ⟨[(0,.bool (!(finF exP exI 0 8).2))],[],0⟩ [.bool (!(finF exP exI 0 8).2)] (cvR hE []) ?_
 exact ⟨congrArg (fun b=>Ret.ret (AV.bool b)) (by kernel_rfl),rfl,rfl⟩
end Go.SL
