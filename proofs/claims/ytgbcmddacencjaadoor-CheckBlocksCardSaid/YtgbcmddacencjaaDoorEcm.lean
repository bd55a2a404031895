import Derived.Test.YtgbcmddacencjaaDoorGam
import Derived.Test.YtgbcmddacencjaaDoorVfm
set_option linter.unusedSimpArgs false
set_option linter.unusedVariables false
namespace Go.SL
structure FnI (p:Pg) (f:Nat):Prop where
 e:((infOf p).ends.f f).n = (p.funcs.f f).lines.n
 q:((infOf p).parent.f f).n = (p.funcs.f f).lines.n
 blo:Blo (fun i=>((p.funcs.f f).lines.f i).op) ((infOf p).ends.f f).f ((infOf p).parent.f f).f 0 (p.funcs.f f).lines.n (-1)
 small:(p.funcs.f f).lines.n≤60
 sl:(infOf p).slots.f f = ofL eB (slotsF (arrL (p.funcs.f f).params) (arrL (p.funcs.f f).lines))
theorem made_fn {p:Pg} (h:MadeOK p) {f:Nat} (hf:f < p.funcs.n):FnI p f:=by
 obtain ⟨h1,h2,h3,h4,h5⟩:=(made_ok h).1.fb f hf
 refine ⟨?_,?_,?_,h4,?_⟩
 ·rw [inf_ends hf]; exact h1
 ·rw [inf_par hf]; exact h2
 ·rw [inf_ends hf,inf_par hf]; exact h3
 ·rw [inf_slots hf]; exact h5
theorem FnI.line {p:Pg} {f:Nat} (h:FnI p f) (k:Nat) (hk:k < (p.funcs.f f).lines.n) :
  ((infOf p).parent.f f).f k < k∧-1≤((infOf p).parent.f f).f k∧((infOf p).ends.f f).f k < (p.funcs.f f).lines.n ∧
  (36≤((p.funcs.f f).lines.f k).op∧((p.funcs.f f).lines.f k).op≤42→0≤((infOf p).ends.f f).f k) ∧
  (((p.funcs.f f).lines.f k).op < 36∨42 < ((p.funcs.f f).lines.f k).op→((infOf p).ends.f f).f k = -1) ∧
  (36≤((p.funcs.f f).lines.f k).op∧((p.funcs.f f).lines.f k).op≤41→(k:Int) < ((infOf p).ends.f f).f k):=h.blo.f1 (by omega) k (by omega) hk
def depF (ops:Nat→Int):Nat→Int
 | 0=>0
 | k + 1=>depF ops k + dstep (ops k)
abbrev depP (p:Pg) (f k:Nat):Int:=depF (fun i=>((p.funcs.f f).lines.f i).op) k
theorem FnI.deep {p:Pg} {f:Nat} (h:FnI p f):depP p f (p.funcs.f f).lines.n = 0∧∀ k:Nat,k≤(p.funcs.f f).lines.n→0≤depP p f k:=by
 obtain ⟨h1,h2⟩:=h.blo.deep (D:=depF fun i=>((p.funcs.f f).lines.f i).op) (fun k=>rfl)
 exact ⟨h1,fun k hk=>h2 k (by omega) hk⟩
theorem dep_le (ops:Nat→Int):∀ k:Nat,-(k:Int)≤depF ops k∧depF ops k≤k
 | 0=>by simp [depF]
 | k + 1=>by
  have:=dep_le ops k
  have h:depF ops (k + 1) = depF ops k + dstep (ops k):=rfl
  have hd:-1≤dstep (ops k)∧dstep (ops k)≤1:=by
   unfold dstep
   repeat' split
   all_goals omega
  omega
theorem depP_s {p:Pg} {f k:Nat}:depP p f (k + 1) = depP p f k + dstep ((p.funcs.f f).lines.f k).op:=rfl
theorem ds_open {x:Int} (h:x = 36∨x = 38∨x = 39):dstep x = 1:=by rw [dstep,if_pos h]
theorem ds_end {x:Int} (h:x = 42):dstep x = -1:=by rw [dstep,if_neg (by omega),if_pos h]
theorem ds_no {x:Int} (h:¬ (x = 36∨x = 38∨x = 39)) (h2:¬ x = 42):dstep x = 0:=by rw [dstep,if_neg h,if_neg h2]
abbrev ChnP (p:Pg) (f k n a:Nat):Prop:=Chn (fun i=>((p.funcs.f f).lines.f i).op) ((infOf p).ends.f f).f k n a
theorem FnI.chain {p:Pg} {f:Nat} (h:FnI p f) (k:Nat) (hk:k < (p.funcs.f f).lines.n) (ho:((p.funcs.f f).lines.f k).op = 36∨((p.funcs.f f).lines.f k).op = 38∨((p.funcs.f f).lines.f k).op = 39):∃ n,n≤3∧ChnP p f k n k:=h.blo.chain k (by omega) hk ho
theorem chn_end {p:Pg} {f k n a:Nat} (h:ChnP p f k n a) (he:((p.funcs.f f).lines.f a).op = 42):((infOf p).ends.f f).f a = k:=by
 cases n with
 | zero=>exact h.2
 | succ n=>exact absurd he h.1
theorem chn_go {p:Pg} {f k n a:Nat} (h:ChnP p f k n a) (he:¬ ((p.funcs.f f).lines.f a).op = 42):0 < n∧∃ b:Nat,((infOf p).ends.f f).f a = b∧a < b∧ChnP p f k (n - 1) b:=by
 cases n with
 | zero=>exact absurd h.1 he
 | succ n=>exact ⟨Nat.succ_pos n,h.2⟩
def wantF (ops E:Nat→Int) (k:Nat):Nat→Int
 | 0=>-1
 | c + 1=>if ops c ≠ 42∧(k:Int) < E c then c else wantF ops E k c
theorem want_succ {ops E:Nat→Int} {k c:Nat}:wantF ops E k (c + 1) = if ops c ≠ 42∧(k:Int) < E c then (c:Int) else wantF ops E k c:=rfl
theorem want_last {ops E:Nat→Int} {k:Nat} {q:Int} (h:Last ops E 0 k (-1) q):wantF ops E k k = q:=by
 rcases h with ⟨x,h1,h2,h3,h4,rfl,h6⟩ | ⟨rfl,h6⟩
 ·have key:∀ m:Nat,x + 1 + m≤k→wantF ops E k (x + 1 + m) = x:=by
   intro m
   induction m with
   | zero=>intro _; rw [Nat.add_zero,want_succ,if_pos ⟨h3,h4⟩]
   | succ m ih =>
    intro hm
    rw [show x + 1 + (m + 1) = (x + 1 + m) + 1 from rfl,want_succ,if_neg (h6 (x + 1 + m) (by omega) (by omega))]
    exact ih (by omega)
  have:=key (k - (x + 1)) (by omega)
  rwa [show x + 1 + (k - (x + 1)) = k by omega] at this
 ·have key:∀ m:Nat,m≤k→wantF ops E k m = -1:=by
   intro m
   induction m with
   | zero=>intro _; rfl
   | succ m ih =>
    intro hm
    rw [want_succ,if_neg (h6 m (by omega) (by omega))]
    exact ih (by omega)
  exact key k (Nat.le_refl _)
abbrev wantP (p:Pg) (f k c:Nat):Int:=wantF (fun i=>((p.funcs.f f).lines.f i).op) ((infOf p).ends.f f).f k c
theorem FnI.want {p:Pg} {f:Nat} (h:FnI p f) (k:Nat) (hk:k < (p.funcs.f f).lines.n):wantP p f k k = ((infOf p).parent.f f).f k:=want_last (h.blo.last (by omega) k (by omega) hk)
end Go.SL
namespace Go.SL
open Go.Proofs
theorem blocks_ctr (l:Arr Int) (hl:l.n < 281474976710656):Ctr Tryd.prog 3 [ints l] [] 0 (fun r hp1 n1=>r = .ret (.bool true)):=by
 refine ctr_body Tryd.func3 rfl (by kernel_rfl) Tryd.ntmps3 rfl rfl fun E hE=>?_
 refine g0 pcs_ok 6 [] (.op 6 0 [cN 7]) ⟨[(0,ints l)],[],0⟩ ([]) aN ?_
 refine gc (d:=some 18) [] sanity_ctr ?_
 rintro _ _ _ _ ⟨⟨⟩,rfl,rfl⟩
 refine g0 pcs_ok 6 [] (.op 14 1 [cN 15]) ⟨[(3,.bool true),(19,ints l)],[],0⟩ ([]) aN ?_
 refine gc (d:=some 20) [] (made_ctr l hl) ?_
 rintro _ _ _ _ ⟨⟨p,hp,⟨⟩⟩,rfl,rfl⟩
 refine g0 pcs_ok 7 [] (.op 30 1 [cN 31]) ⟨[(3,.bool true),(4,.ptr 1 0),(22,pgA p)],[(1,.row 27 (pgC p))],2⟩ ([.b true]) (aT aN) ?_
 refine gc (d:=some 23) [] (check_ctr p (made_ok hp).1.ok) ?_
 rintro _ _ _ _ ⟨⟨⟩,rfl,rfl⟩
 refine g0 pcs_ok 26 [] (.op 124 12 [cN 125,cN 63]) ⟨[(3,.bool true),(4,.ptr 1 0),(5,.ptr 6 0),(38,.bool (!decide (((infOf p).ends.n:Int) = (p.funcs.n:Int))))],[(1,.row 27 (pgC p)),(6,.row 32 (infC (infOf p)))],8⟩ ([.b true,.b true]) (aT (aT aN)) ?_
 refine gb 38 false (!decide (((infOf p).ends.n:Int) = (p.funcs.n:Int))) (ndecF (by have:=@inf_n p; omega)) ?_
 refine g0 pcs_ok 10 [] (.go [cN 125,cN 63]) ⟨[(3,.bool true),(4,.ptr 1 0),(5,.ptr 6 0),(46,.bool (!decide (((infOf p).parent.n:Int) = (p.funcs.n:Int))))],[(1,.row 27 (pgC p)),(6,.row 32 (infC (infOf p)))],8⟩ ([]) aN ?_
 refine gb 46 false (!decide (((infOf p).parent.n:Int) = (p.funcs.n:Int))) (ndecF (by have:=@inf_n p; omega)) ?_
 refine g0 pcs_ok 11 [] (.go [cN 506,.b 0,cN 127]) ⟨[(3,.bool true),(5,.ptr 6 0),(48,fcs p.funcs),(49,nI p.funcs.n),(50,iI 0)],[(6,.row 32 (infC (infOf p)))],8⟩ ([]) aN ?_
 refine go_loop (fun (f:Nat)=>⟨[(3,.bool true),(5,.ptr 0 0),(48,fcs p.funcs),(49,nI p.funcs.n),(50,nI f)],[(0,.row 32 (infC (infOf p)))],1⟩) (fun (f:Nat)=>f≤p.funcs.n) (fun (f:Nat)=>p.funcs.n - f) (0:Nat) rfl (by exact Nat.zero_le _) (cvR hE [6]) ?_
 intro f hR10
 have hR1:f≤p.funcs.n:=hR10
 refine g0 pcs_ok 5 [] (.go [cN 4050,cN 4051]) ⟨[(3,.bool true),(5,.ptr 0 0),(48,fcs p.funcs),(49,nI p.funcs.n),(50,nI f),(51,.bool (decide ((f:Int) < (p.funcs.n:Int))))],[(0,.row 32 (infC (infOf p)))],1⟩ ([]) aN ?_
 by_cases h2:(f:Int) < (p.funcs.n:Int)
 ·refine gb 51 true (decide ((f:Int) < (p.funcs.n:Int))) (decide_eq_true h2) ?_
  have hfb:=made_fn hp (f:=f) (by omega); have hfe:=hfb.e; have hfq:=hfb.q; have hsm:=hfb.small; have hdp:=hfb.deep; have hp4:=(made_ok hp).2; obtain ⟨hi1,hi2,hi3⟩:=@inf_n p
  refine g0 pcs_ok 25 [(66,.bool false)] (.go [cN 259277,cN 129639,.b 1,cN 8103]) ⟨[(3,.bool true),(5,.ptr 0 0),(8,nI f),(9,.ptr 1 0),(10,ints ((infOf p).ends.f f)),(48,fcs p.funcs),(49,nI p.funcs.n),(50,nI f),(77,.bool (!decide ((((infOf p).parent.f f).n:Int) = ((p.funcs.f f).lines.n:Int))))],[(0,.row 32 (infC (infOf p))),(1,.row 41 (fcC (p.funcs.f f)))],2⟩ ([.b (ixB (f:Int) ((infOf p).parent.n)),.p ((AV.bool (!decide ((((infOf p).ends.f f).n:Int) = ((p.funcs.f f).lines.n:Int)))) = (AV.bool false)),.b (ixB (f:Int) ((infOf p).ends.n)),.b true,.b (ixB (f:Int) p.funcs.n)]) (aD (by omega) (aP (by exact congrArg AV.bool (ndecF (by omega))) (aD (by omega) (aT (aD (by omega) aN))))) ?_
  refine gb 77 false (!decide ((((infOf p).parent.f f).n:Int) = ((p.funcs.f f).lines.n:Int))) (ndecF (by omega)) ?_
  refine g0 pcs_ok 15 [] (.go [cN 2074234,.b 2,cN 518559,.b 1,cN 8103]) ⟨[(3,.bool true),(5,.ptr 0 0),(8,nI f),(9,.ptr 1 0),(10,ints ((infOf p).ends.f f)),(11,iI 0),(48,fcs p.funcs),(49,nI p.funcs.n),(50,nI f),(79,lns ((p.funcs.f f).lines)),(80,nI ((p.funcs.f f).lines.n)),(81,iI 0)],[(0,.row 32 (infC (infOf p))),(1,.row 41 (fcC (p.funcs.f f)))],2⟩ ([]) aN ?_
  refine go_loop (fun (k:Nat)=>⟨[(3,.bool true),(5,.ptr 0 0),(8,nI f),(9,.ptr 1 0),(10,ints ((infOf p).ends.f f)),(11,iI (depP p f k)),(48,fcs p.funcs),(49,nI p.funcs.n),(50,nI f),(79,lns ((p.funcs.f f).lines)),(80,nI ((p.funcs.f f).lines.n)),(81,nI k)],[(0,.row 32 (infC (infOf p))),(1,.row 41 (fcC (p.funcs.f f)))],2⟩) (fun (k:Nat)=>k≤(p.funcs.f f).lines.n) (fun (k:Nat)=>(p.funcs.f f).lines.n - k) (0:Nat) rfl (by exact Nat.zero_le _) (cvR hE [0,1]) ?_
  intro k hR30
  have hR3:k≤(p.funcs.f f).lines.n:=hR30
  refine g0 pcs_ok 5 [] (.go [cN 16593874,cN 16593875]) ⟨[(3,.bool true),(5,.ptr 0 0),(8,nI f),(9,.ptr 1 0),(10,ints ((infOf p).ends.f f)),(11,iI (depP p f k)),(48,fcs p.funcs),(49,nI p.funcs.n),(50,nI f),(79,lns ((p.funcs.f f).lines)),(80,nI ((p.funcs.f f).lines.n)),(81,nI k),(82,.bool (decide ((k:Int) < ((p.funcs.f f).lines.n:Int))))],[(0,.row 32 (infC (infOf p))),(1,.row 41 (fcC (p.funcs.f f)))],2⟩ ([]) aN ?_
  by_cases h4:(k:Int) < ((p.funcs.f f).lines.n:Int)
  ·refine gb 82 true (decide ((k:Int) < ((p.funcs.f f).lines.n:Int))) (decide_eq_true h4) ?_
   refine g0 pcs_ok 15 [] (.op 265502002 0 [cN 265502003,.b 3,cN 33187751]) ⟨[(3,.bool true),(5,.ptr 0 0),(8,nI f),(9,.ptr 1 0),(10,ints ((infOf p).ends.f f)),(11,iI (depP p f k)),(12,nI k),(13,.ptr 2 0),(48,fcs p.funcs),(49,nI p.funcs.n),(50,nI f),(79,lns ((p.funcs.f f).lines)),(80,nI ((p.funcs.f f).lines.n)),(81,nI k)],[(0,.row 32 (infC (infOf p))),(1,.row 41 (fcC (p.funcs.f f))),(2,.row 45 (lnC ((p.funcs.f f).lines.f k)))],3⟩ ([.b true,.b (ixB (k:Int) ((p.funcs.f f).lines.n))]) (aT (aD (by omega) aN)) ?_
   have hln:=hfb.line k (by omega)
   have hd0:=hdp.2 k (by omega)
   have hd1:=hdp.2 (k + 1) (by omega)
   rw [depP_s] at hd1
   have hdq:-(k:Int)≤depP p f k∧depP p f k≤k:=dep_le _ k
   have hcl:(((p.funcs.f f).lines.f k).op = 36∨((p.funcs.f f).lines.f k).op = 38∨((p.funcs.f f).lines.f k).op = 39)∨(((p.funcs.f f).lines.f k).op = 37∨((p.funcs.f f).lines.f k).op = 40∨((p.funcs.f f).lines.f k).op = 41)∨(((p.funcs.f f).lines.f k).op = 42)∨(((p.funcs.f f).lines.f k).op < 36∨42 < ((p.funcs.f f).lines.f k).op):=by omega
   rcases hcl with hcl | hcl | hcl | hcl
   ·have hds:=ds_open hcl
    rw [hds] at hd1
    refine go_cut (.op 2124016028 0 [cN 2124016029,cN 1062008015,.b 3,cN 33187751]) ⟨[(3,.bool true),(5,.ptr 0 0),(8,nI f),(9,.ptr 1 0),(10,ints ((infOf p).ends.f f)),(11,iI (depP p f k)),(12,nI k),(13,.ptr 2 0),(14,.bool true),(15,.bool false),(48,fcs p.funcs),(49,nI p.funcs.n),(50,nI f),(79,lns ((p.funcs.f f).lines)),(80,nI ((p.funcs.f f).lines.n)),(81,nI k)],[(0,.row 32 (infC (infOf p))),(1,.row 41 (fcC (p.funcs.f f))),(2,.row 45 (lnC ((p.funcs.f f).lines.f k)))],3⟩ (fun hk5=>?_) ?_
    ·skip
     refine g0 pcs_ok 5 [] (.op 265502002 4 [cN 265502003,.b 3,cN 33187751]) ⟨[(3,.bool true),(5,.ptr 0 0),(8,nI f),(9,.ptr 1 0),(10,ints ((infOf p).ends.f f)),(11,iI (depP p f k)),(12,nI k),(13,.ptr 2 0),(48,fcs p.funcs),(49,nI p.funcs.n),(50,nI f),(79,lns ((p.funcs.f f).lines)),(80,nI ((p.funcs.f f).lines.n)),(81,nI k),(89,.bool (decide (((p.funcs.f f).lines.f k).op = 36)))],[(0,.row 32 (infC (infOf p))),(1,.row 41 (fcC (p.funcs.f f))),(2,.row 45 (lnC ((p.funcs.f f).lines.f k)))],3⟩ ([]) aN ?_
     by_cases h6:((p.funcs.f f).lines.f k).op = 36
     ·refine gb 89 true (decide (((p.funcs.f f).lines.f k).op = 36)) (decide_eq_true h6) ?_
      refine g0 pcs_ok 18 [] (.op 531004006 4 [cN 531004007,.b 3,cN 33187751]) ⟨[(3,.bool true),(5,.ptr 0 0),(8,nI f),(9,.ptr 1 0),(10,ints ((infOf p).ends.f f)),(11,iI (depP p f k)),(12,nI k),(13,.ptr 2 0),(14,.bool true),(48,fcs p.funcs),(49,nI p.funcs.n),(50,nI f),(79,lns ((p.funcs.f f).lines)),(80,nI ((p.funcs.f f).lines.n)),(81,nI k),(102,.bool (decide (((p.funcs.f f).lines.f k).op = 37)))],[(0,.row 32 (infC (infOf p))),(1,.row 41 (fcC (p.funcs.f f))),(2,.row 45 (lnC ((p.funcs.f f).lines.f k)))],3⟩ ([]) aN ?_
      refine gb 102 false (decide (((p.funcs.f f).lines.f k).op = 37)) (decide_eq_false (by omega)) ?_
      refine g0 pcs_ok 6 [] (.op 531004006 9 [cN 531004007,.b 3,cN 33187751]) ⟨[(3,.bool true),(5,.ptr 0 0),(8,nI f),(9,.ptr 1 0),(10,ints ((infOf p).ends.f f)),(11,iI (depP p f k)),(12,nI k),(13,.ptr 2 0),(14,.bool true),(48,fcs p.funcs),(49,nI p.funcs.n),(50,nI f),(79,lns ((p.funcs.f f).lines)),(80,nI ((p.funcs.f f).lines.n)),(81,nI k),(107,.bool (decide (((p.funcs.f f).lines.f k).op = 40)))],[(0,.row 32 (infC (infOf p))),(1,.row 41 (fcC (p.funcs.f f))),(2,.row 45 (lnC ((p.funcs.f f).lines.f k)))],3⟩ ([]) aN ?_
      refine gb 107 false (decide (((p.funcs.f f).lines.f k).op = 40)) (decide_eq_false (by omega)) ?_
      refine g0 pcs_ok 10 [] (.op 2124016028 0 [cN 2124016029,cN 1062008015,.b 3,cN 33187751]) ⟨[(3,.bool true),(5,.ptr 0 0),(8,nI f),(9,.ptr 1 0),(10,ints ((infOf p).ends.f f)),(11,iI (depP p f k)),(12,nI k),(13,.ptr 2 0),(14,.bool true),(15,.bool (decide (((p.funcs.f f).lines.f k).op = 41))),(48,fcs p.funcs),(49,nI p.funcs.n),(50,nI f),(79,lns ((p.funcs.f f).lines)),(80,nI ((p.funcs.f f).lines.n)),(81,nI k)],[(0,.row 32 (infC (infOf p))),(1,.row 41 (fcC (p.funcs.f f))),(2,.row 45 (lnC ((p.funcs.f f).lines.f k)))],3⟩ ([]) aN ?_
      refine go_to ⟨[(3,.bool true),(5,.ptr 0 0),(8,nI f),(9,.ptr 1 0),(10,ints ((infOf p).ends.f f)),(11,iI (depP p f k)),(12,nI k),(13,.ptr 2 0),(14,.bool true),(15,.bool false),(48,fcs p.funcs),(49,nI p.funcs.n),(50,nI f),(79,lns ((p.funcs.f f).lines)),(80,nI ((p.funcs.f f).lines.n)),(81,nI k)],[(0,.row 32 (infC (infOf p))),(1,.row 41 (fcC (p.funcs.f f))),(2,.row 45 (lnC ((p.funcs.f f).lines.f k)))],3⟩ (cvM hE [0,1,2] ⟨sR,sR,sR,sR,sR,sR,sR,sR,sR,sL (.bool (decide (((p.funcs.f f).lines.f k).op = 41))) (Le.of_eq (congrArg AV.bool (by simp; omega))),toFR⟩ toHR) ?_
      exact hk5
     ·refine gb 89 false (decide (((p.funcs.f f).lines.f k).op = 36)) (decide_eq_false h6) ?_
      refine g0 pcs_ok 6 [] (.op 265502002 9 [cN 265502003,.b 3,cN 33187751]) ⟨[(3,.bool true),(5,.ptr 0 0),(8,nI f),(9,.ptr 1 0),(10,ints ((infOf p).ends.f f)),(11,iI (depP p f k)),(12,nI k),(13,.ptr 2 0),(48,fcs p.funcs),(49,nI p.funcs.n),(50,nI f),(79,lns ((p.funcs.f f).lines)),(80,nI ((p.funcs.f f).lines.n)),(81,nI k),(94,.bool (decide (((p.funcs.f f).lines.f k).op = 38)))],[(0,.row 32 (infC (infOf p))),(1,.row 41 (fcC (p.funcs.f f))),(2,.row 45 (lnC ((p.funcs.f f).lines.f k)))],3⟩ ([]) aN ?_
      by_cases h7:((p.funcs.f f).lines.f k).op = 38
      ·refine gb 94 true (decide (((p.funcs.f f).lines.f k).op = 38)) (decide_eq_true h7) ?_
       refine g0 pcs_ok 13 [] (.op 531004006 4 [cN 531004007,.b 3,cN 33187751]) ⟨[(3,.bool true),(5,.ptr 0 0),(8,nI f),(9,.ptr 1 0),(10,ints ((infOf p).ends.f f)),(11,iI (depP p f k)),(12,nI k),(13,.ptr 2 0),(14,.bool true),(48,fcs p.funcs),(49,nI p.funcs.n),(50,nI f),(79,lns ((p.funcs.f f).lines)),(80,nI ((p.funcs.f f).lines.n)),(81,nI k),(102,.bool (decide (((p.funcs.f f).lines.f k).op = 37)))],[(0,.row 32 (infC (infOf p))),(1,.row 41 (fcC (p.funcs.f f))),(2,.row 45 (lnC ((p.funcs.f f).lines.f k)))],3⟩ ([]) aN ?_
       refine gb 102 false (decide (((p.funcs.f f).lines.f k).op = 37)) (decide_eq_false (by omega)) ?_
       refine g0 pcs_ok 6 [] (.op 531004006 9 [cN 531004007,.b 3,cN 33187751]) ⟨[(3,.bool true),(5,.ptr 0 0),(8,nI f),(9,.ptr 1 0),(10,ints ((infOf p).ends.f f)),(11,iI (depP p f k)),(12,nI k),(13,.ptr 2 0),(14,.bool true),(48,fcs p.funcs),(49,nI p.funcs.n),(50,nI f),(79,lns ((p.funcs.f f).lines)),(80,nI ((p.funcs.f f).lines.n)),(81,nI k),(107,.bool (decide (((p.funcs.f f).lines.f k).op = 40)))],[(0,.row 32 (infC (infOf p))),(1,.row 41 (fcC (p.funcs.f f))),(2,.row 45 (lnC ((p.funcs.f f).lines.f k)))],3⟩ ([]) aN ?_
       refine gb 107 false (decide (((p.funcs.f f).lines.f k).op = 40)) (decide_eq_false (by omega)) ?_
       refine g0 pcs_ok 10 [] (.op 2124016028 0 [cN 2124016029,cN 1062008015,.b 3,cN 33187751]) ⟨[(3,.bool true),(5,.ptr 0 0),(8,nI f),(9,.ptr 1 0),(10,ints ((infOf p).ends.f f)),(11,iI (depP p f k)),(12,nI k),(13,.ptr 2 0),(14,.bool true),(15,.bool (decide (((p.funcs.f f).lines.f k).op = 41))),(48,fcs p.funcs),(49,nI p.funcs.n),(50,nI f),(79,lns ((p.funcs.f f).lines)),(80,nI ((p.funcs.f f).lines.n)),(81,nI k)],[(0,.row 32 (infC (infOf p))),(1,.row 41 (fcC (p.funcs.f f))),(2,.row 45 (lnC ((p.funcs.f f).lines.f k)))],3⟩ ([]) aN ?_
       refine go_to ⟨[(3,.bool true),(5,.ptr 0 0),(8,nI f),(9,.ptr 1 0),(10,ints ((infOf p).ends.f f)),(11,iI (depP p f k)),(12,nI k),(13,.ptr 2 0),(14,.bool true),(15,.bool false),(48,fcs p.funcs),(49,nI p.funcs.n),(50,nI f),(79,lns ((p.funcs.f f).lines)),(80,nI ((p.funcs.f f).lines.n)),(81,nI k)],[(0,.row 32 (infC (infOf p))),(1,.row 41 (fcC (p.funcs.f f))),(2,.row 45 (lnC ((p.funcs.f f).lines.f k)))],3⟩ (cvM hE [0,1,2] ⟨sR,sR,sR,sR,sR,sR,sR,sR,sR,sL (.bool (decide (((p.funcs.f f).lines.f k).op = 41))) (Le.of_eq (congrArg AV.bool (by simp; omega))),toFR⟩ toHR) ?_
       exact hk5
      ·refine gb 94 false (decide (((p.funcs.f f).lines.f k).op = 38)) (decide_eq_false h7) ?_
       refine g0 pcs_ok 13 [] (.op 531004006 4 [cN 531004007,.b 3,cN 33187751]) ⟨[(3,.bool true),(5,.ptr 0 0),(8,nI f),(9,.ptr 1 0),(10,ints ((infOf p).ends.f f)),(11,iI (depP p f k)),(12,nI k),(13,.ptr 2 0),(14,.bool (decide (((p.funcs.f f).lines.f k).op = 39))),(48,fcs p.funcs),(49,nI p.funcs.n),(50,nI f),(79,lns ((p.funcs.f f).lines)),(80,nI ((p.funcs.f f).lines.n)),(81,nI k),(102,.bool (decide (((p.funcs.f f).lines.f k).op = 37)))],[(0,.row 32 (infC (infOf p))),(1,.row 41 (fcC (p.funcs.f f))),(2,.row 45 (lnC ((p.funcs.f f).lines.f k)))],3⟩ ([]) aN ?_
       refine gb 102 false (decide (((p.funcs.f f).lines.f k).op = 37)) (decide_eq_false (by omega)) ?_
       refine g0 pcs_ok 6 [] (.op 531004006 9 [cN 531004007,.b 3,cN 33187751]) ⟨[(3,.bool true),(5,.ptr 0 0),(8,nI f),(9,.ptr 1 0),(10,ints ((infOf p).ends.f f)),(11,iI (depP p f k)),(12,nI k),(13,.ptr 2 0),(14,.bool (decide (((p.funcs.f f).lines.f k).op = 39))),(48,fcs p.funcs),(49,nI p.funcs.n),(50,nI f),(79,lns ((p.funcs.f f).lines)),(80,nI ((p.funcs.f f).lines.n)),(81,nI k),(107,.bool (decide (((p.funcs.f f).lines.f k).op = 40)))],[(0,.row 32 (infC (infOf p))),(1,.row 41 (fcC (p.funcs.f f))),(2,.row 45 (lnC ((p.funcs.f f).lines.f k)))],3⟩ ([]) aN ?_
       refine gb 107 false (decide (((p.funcs.f f).lines.f k).op = 40)) (decide_eq_false (by omega)) ?_
       refine g0 pcs_ok 10 [] (.op 2124016028 0 [cN 2124016029,cN 1062008015,.b 3,cN 33187751]) ⟨[(3,.bool true),(5,.ptr 0 0),(8,nI f),(9,.ptr 1 0),(10,ints ((infOf p).ends.f f)),(11,iI (depP p f k)),(12,nI k),(13,.ptr 2 0),(14,.bool (decide (((p.funcs.f f).lines.f k).op = 39))),(15,.bool (decide (((p.funcs.f f).lines.f k).op = 41))),(48,fcs p.funcs),(49,nI p.funcs.n),(50,nI f),(79,lns ((p.funcs.f f).lines)),(80,nI ((p.funcs.f f).lines.n)),(81,nI k)],[(0,.row 32 (infC (infOf p))),(1,.row 41 (fcC (p.funcs.f f))),(2,.row 45 (lnC ((p.funcs.f f).lines.f k)))],3⟩ ([]) aN ?_
       refine go_to ⟨[(3,.bool true),(5,.ptr 0 0),(8,nI f),(9,.ptr 1 0),(10,ints ((infOf p).ends.f f)),(11,iI (depP p f k)),(12,nI k),(13,.ptr 2 0),(14,.bool true),(15,.bool false),(48,fcs p.funcs),(49,nI p.funcs.n),(50,nI f),(79,lns ((p.funcs.f f).lines)),(80,nI ((p.funcs.f f).lines.n)),(81,nI k)],[(0,.row 32 (infC (infOf p))),(1,.row 41 (fcC (p.funcs.f f))),(2,.row 45 (lnC ((p.funcs.f f).lines.f k)))],3⟩ (cvM hE [0,1,2] ⟨sR,sR,sR,sR,sR,sR,sR,sR,sL (.bool (decide (((p.funcs.f f).lines.f k).op = 39))) (Le.of_eq (congrArg AV.bool (by simp; omega))),sL (.bool (decide (((p.funcs.f f).lines.f k).op = 41))) (Le.of_eq (congrArg AV.bool (by simp; omega))),toFR⟩ toHR) ?_
       exact hk5
    ·skip
     refine g0 pcs_ok 16 [] (.go [cN 4248032061,cN 2124016031,.b 3,cN 33187751]) ⟨[(3,.bool true),(5,.ptr 0 0),(8,nI f),(9,.ptr 1 0),(10,ints ((infOf p).ends.f f)),(11,iI ((depP p f k) + 1)),(12,nI k),(13,.ptr 2 0),(14,.bool true),(15,.bool false),(48,fcs p.funcs),(49,nI p.funcs.n),(50,nI f),(79,lns ((p.funcs.f f).lines)),(80,nI ((p.funcs.f f).lines.n)),(81,nI k),(117,.bool (decide (((p.funcs.f f).lines.f k).op = 42)))],[(0,.row 32 (infC (infOf p))),(1,.row 41 (fcC (p.funcs.f f))),(2,.row 45 (lnC ((p.funcs.f f).lines.f k)))],3⟩ ([.b (rng ((depP p f k) + 1))]) (aR (by omega) (by omega) aN) ?_
     refine gb 117 false (decide (((p.funcs.f f).lines.f k).op = 42)) (decide_eq_false (by omega)) ?_
     refine g0 pcs_ok 5 [(135,.bool false),(145,.bool false),(157,.bool false)] (.go [cN 8496064125,cN 4248032063,.b 3,cN 33187751]) ⟨[(3,.bool true),(5,.ptr 0 0),(8,nI f),(9,.ptr 1 0),(10,ints ((infOf p).ends.f f)),(11,iI ((depP p f k) + 1)),(12,nI k),(14,.bool true),(48,fcs p.funcs),(49,nI p.funcs.n),(50,nI f),(79,lns ((p.funcs.f f).lines)),(80,nI ((p.funcs.f f).lines.n)),(81,nI k),(160,.bool (decide (((depP p f k) + 1) < 0)))],[(0,.row 32 (infC (infOf p))),(1,.row 41 (fcC (p.funcs.f f)))],3⟩ ([.p ((AV.bool (decide ((((infOf p).parent.f f).f k) ≥ (k:Int)))) = (AV.bool false)),.b (ixB (k:Int) (((infOf p).parent.f f).n)),.b (ixB (f:Int) ((infOf p).parent.n)),.p ((AV.bool (decide ((((infOf p).ends.f f).f k) ≥ ((p.funcs.f f).lines.n:Int)))) = (AV.bool false)),.b (ixB (k:Int) (((infOf p).ends.f f).n)),.p ((AV.bool (!((decide ((((infOf p).ends.f f).f k) ≥ 0)) == true))) = (AV.bool false)),.b (ixB (k:Int) (((infOf p).ends.f f).n))]) (aP (by exact dF (by omega)) (aD (by omega) (aD (by omega) (aP (by exact dF (by omega)) (aD (by omega) (aP (by exact congrArg AV.bool (by simp; omega)) (aD (by omega) aN))))))) ?_
     refine gb 160 false (decide (((depP p f k) + 1) < 0)) (decide_eq_false (by omega)) ?_
     refine g0 pcs_ok 13 [] (.go [cN 67968513018,.b 4,cN 16992128255,.b 3,cN 33187751]) ⟨[(3,.bool true),(5,.ptr 0 0),(8,nI f),(9,.ptr 1 0),(10,ints ((infOf p).ends.f f)),(11,iI ((depP p f k) + 1)),(12,nI k),(14,.bool true),(16,nI k),(17,iI 0),(48,fcs p.funcs),(49,nI p.funcs.n),(50,nI f),(79,lns ((p.funcs.f f).lines)),(80,nI ((p.funcs.f f).lines.n)),(81,nI k)],[(0,.row 32 (infC (infOf p))),(1,.row 41 (fcC (p.funcs.f f)))],3⟩ ([]) aN ?_
     refine go_loop (fun (z_:Nat × Nat)=>match z_ with | (a,t)=>⟨[(3,.bool true),(5,.ptr 0 0),(8,nI f),(9,.ptr 1 0),(10,ints ((infOf p).ends.f f)),(11,iI ((depP p f k) + 1)),(12,nI k),(14,.bool true),(16,nI a),(17,nI t),(48,fcs p.funcs),(49,nI p.funcs.n),(50,nI f),(79,lns ((p.funcs.f f).lines)),(80,nI ((p.funcs.f f).lines.n)),(81,nI k)],[(0,.row 32 (infC (infOf p))),(1,.row 41 (fcC (p.funcs.f f)))],2⟩) (fun (z_:Nat × Nat)=>match z_ with | (a,t)=>a < (p.funcs.f f).lines.n∧t≤3∧∃ n,n + t≤3∧ChnP p f k n a) (fun (z_:Nat × Nat)=>match z_ with | (a,t)=>(p.funcs.f f).lines.n - a) (k,0) rfl (by obtain ⟨n,h1,h2⟩:=hfb.chain k (by omega) hcl; exact ⟨by omega,by omega,n,h1,h2⟩) (cvR hE [0,1]) ?_
     rintro ⟨a,t⟩ hR80
     have hR8:a < (p.funcs.f f).lines.n∧t≤3∧∃ n,n + t≤3∧ChnP p f k n a:=hR80
     obtain ⟨ha1,ha2,n,ha3,ha4⟩:=hR8; have hla:=hfb.line a ha1
     refine g0 pcs_ok 14 [] (.go [cN 543748104145,cN 271874052073]) ⟨[(3,.bool true),(5,.ptr 0 0),(8,nI f),(9,.ptr 1 0),(10,ints ((infOf p).ends.f f)),(11,iI ((depP p f k) + 1)),(12,nI k),(14,.bool true),(16,nI a),(17,nI t),(48,fcs p.funcs),(49,nI p.funcs.n),(50,nI f),(79,lns ((p.funcs.f f).lines)),(80,nI ((p.funcs.f f).lines.n)),(81,nI k),(171,.bool (!decide (((p.funcs.f f).lines.f a).op = 42)))],[(0,.row 32 (infC (infOf p))),(1,.row 41 (fcC (p.funcs.f f)))],2⟩ ([.b (ixB (a:Int) ((p.funcs.f f).lines.n))]) (aD (by omega) aN) ?_
     by_cases h9:((p.funcs.f f).lines.f a).op = 42
     ·refine gb 171 false (!decide (((p.funcs.f f).lines.f a).op = 42)) (ndecF h9) ?_
      have hb5:=chn_end ha4 h9
      refine g0 pcs_ok 1 [] (.go [cN 1087496208291,cN 271874052073]) ⟨[(3,.bool true),(5,.ptr 0 0),(8,nI f),(9,.ptr 1 0),(10,ints ((infOf p).ends.f f)),(11,iI ((depP p f k) + 1)),(12,nI k),(14,.bool true),(16,nI a),(48,fcs p.funcs),(49,nI p.funcs.n),(50,nI f),(79,lns ((p.funcs.f f).lines)),(80,nI ((p.funcs.f f).lines.n)),(81,nI k)],[(0,.row 32 (infC (infOf p))),(1,.row 41 (fcC (p.funcs.f f)))],2⟩ ([]) aN ?_
      refine go_brk rfl rfl rfl ?_
      refine g0 pcs_ok 12 [] (.go [cN 33984256511,.b 3,cN 33187751]) ⟨[(3,.bool true),(5,.ptr 0 0),(8,nI f),(9,.ptr 1 0),(10,ints ((infOf p).ends.f f)),(11,iI ((depP p f k) + 1)),(48,fcs p.funcs),(49,nI p.funcs.n),(50,nI f),(79,lns ((p.funcs.f f).lines)),(80,nI ((p.funcs.f f).lines.n)),(81,nI k),(196,.bool (!decide ((((infOf p).ends.f f).f a) = (k:Int))))],[(0,.row 32 (infC (infOf p))),(1,.row 41 (fcC (p.funcs.f f)))],2⟩ ([.b (ixB (a:Int) (((infOf p).ends.f f).n))]) (aD (by omega) aN) ?_
      refine gb 196 false (!decide ((((infOf p).ends.f f).f a) = (k:Int))) (ndecF (by omega)) ?_
      refine g0 pcs_ok 7 [] (.go []) ⟨[(3,.bool true),(5,.ptr 0 0),(8,nI f),(9,.ptr 1 0),(10,ints ((infOf p).ends.f f)),(11,iI ((depP p f k) + 1)),(48,fcs p.funcs),(49,nI p.funcs.n),(50,nI f),(79,lns ((p.funcs.f f).lines)),(80,nI ((p.funcs.f f).lines.n)),(81,nI (k + 1))],[(0,.row 32 (infC (infOf p))),(1,.row 41 (fcC (p.funcs.f f)))],2⟩ ([.b (rng (((k + 1):Nat):Int))]) (aR (by omega) (by omega) aN) ?_
      refine go_again ((k + 1)) (by first | (dsimp only; omega) | omega) (by omega) (cvM hE [0,1] ⟨sR,sR,sR,sR,sR,sL (iI ((depP p f k) + 1)) (Le.of_eq (congrArg (AV.int .i64) (by rw [depP_s]; omega))),toFR⟩ toHR)
     ·refine gb 171 true (!decide (((p.funcs.f f).lines.f a).op = 42)) (ndec h9) ?_
      obtain ⟨hb1,b,hb2,hb3,hb4⟩:=chn_go ha4 h9
      refine g0 pcs_ok 10 [] (.op 4349984833168 3 [cN 4349984833169,cN 2174992416585,.b 5,cN 543748104147]) ⟨[(3,.bool true),(5,.ptr 0 0),(8,nI f),(9,.ptr 1 0),(10,ints ((infOf p).ends.f f)),(11,iI ((depP p f k) + 1)),(12,nI k),(14,.bool true),(16,nI a),(17,nI t),(48,fcs p.funcs),(49,nI p.funcs.n),(50,nI f),(79,lns ((p.funcs.f f).lines)),(80,nI ((p.funcs.f f).lines.n)),(81,nI k),(176,.bool (decide ((t:Int) > 4)))],[(0,.row 32 (infC (infOf p))),(1,.row 41 (fcC (p.funcs.f f)))],2⟩ ([]) aN ?_
      refine gb 176 false (decide ((t:Int) > 4)) (decide_eq_false (by omega)) ?_
      refine g0 pcs_ok 9 [] (.go [cN 4349984833169,cN 2174992416585,.b 5,cN 543748104147]) ⟨[(3,.bool true),(5,.ptr 0 0),(8,nI f),(9,.ptr 1 0),(10,ints ((infOf p).ends.f f)),(11,iI ((depP p f k) + 1)),(12,nI k),(14,.bool true),(16,nI a),(17,nI t),(48,fcs p.funcs),(49,nI p.funcs.n),(50,nI f),(79,lns ((p.funcs.f f).lines)),(80,nI ((p.funcs.f f).lines.n)),(81,nI k),(183,.bool (decide ((((infOf p).ends.f f).f a)≤(a:Int))))],[(0,.row 32 (infC (infOf p))),(1,.row 41 (fcC (p.funcs.f f)))],2⟩ ([.b (ixB (a:Int) (((infOf p).ends.f f).n))]) (aD (by omega) aN) ?_
      refine gb 183 false (decide ((((infOf p).ends.f f).f a)≤(a:Int))) (decide_eq_false (by omega)) ?_
      refine g0 pcs_ok 15 [] (.go []) ⟨[(3,.bool true),(5,.ptr 0 0),(8,nI f),(9,.ptr 1 0),(10,ints ((infOf p).ends.f f)),(11,iI ((depP p f k) + 1)),(12,nI k),(14,.bool true),(16,iI (((infOf p).ends.f f).f a)),(17,nI (t + 1)),(48,fcs p.funcs),(49,nI p.funcs.n),(50,nI f),(79,lns ((p.funcs.f f).lines)),(80,nI ((p.funcs.f f).lines.n)),(81,nI k)],[(0,.row 32 (infC (infOf p))),(1,.row 41 (fcC (p.funcs.f f)))],2⟩ ([.b (rng (((t + 1):Nat):Int)),.b (ixB (a:Int) (((infOf p).ends.f f).n))]) (aR (by omega) (by omega) (aD (by omega) aN)) ?_
      refine go_again (b,(t + 1)) (by (dsimp only; omega)) (by exact ⟨by omega,by omega,n - 1,by omega,hb4⟩) (cvM hE [0,1] ⟨sR,sR,sR,sR,sR,sR,sR,sR,sL (iI (((infOf p).ends.f f).f a)) (Le.of_eq (congrArg (AV.int .i64) hb2)),toFR⟩ toHR)
   ·have hds:=ds_no (x:=((p.funcs.f f).lines.f k).op) (by omega) (by omega)
    rw [hds] at hd1
    refine go_cut (.op 2124016028 0 [cN 2124016029,cN 1062008015,.b 3,cN 33187751]) ⟨[(3,.bool true),(5,.ptr 0 0),(8,nI f),(9,.ptr 1 0),(10,ints ((infOf p).ends.f f)),(11,iI (depP p f k)),(12,nI k),(13,.ptr 2 0),(14,.bool false),(15,.bool true),(48,fcs p.funcs),(49,nI p.funcs.n),(50,nI f),(79,lns ((p.funcs.f f).lines)),(80,nI ((p.funcs.f f).lines.n)),(81,nI k)],[(0,.row 32 (infC (infOf p))),(1,.row 41 (fcC (p.funcs.f f))),(2,.row 45 (lnC ((p.funcs.f f).lines.f k)))],3⟩ (fun hk10=>?_) ?_
    ·skip
     refine g0 pcs_ok 5 [] (.op 265502002 4 [cN 265502003,.b 3,cN 33187751]) ⟨[(3,.bool true),(5,.ptr 0 0),(8,nI f),(9,.ptr 1 0),(10,ints ((infOf p).ends.f f)),(11,iI (depP p f k)),(12,nI k),(13,.ptr 2 0),(48,fcs p.funcs),(49,nI p.funcs.n),(50,nI f),(79,lns ((p.funcs.f f).lines)),(80,nI ((p.funcs.f f).lines.n)),(81,nI k),(89,.bool (decide (((p.funcs.f f).lines.f k).op = 36)))],[(0,.row 32 (infC (infOf p))),(1,.row 41 (fcC (p.funcs.f f))),(2,.row 45 (lnC ((p.funcs.f f).lines.f k)))],3⟩ ([]) aN ?_
     refine gb 89 false (decide (((p.funcs.f f).lines.f k).op = 36)) (decide_eq_false (by omega)) ?_
     refine g0 pcs_ok 6 [] (.op 265502002 9 [cN 265502003,.b 3,cN 33187751]) ⟨[(3,.bool true),(5,.ptr 0 0),(8,nI f),(9,.ptr 1 0),(10,ints ((infOf p).ends.f f)),(11,iI (depP p f k)),(12,nI k),(13,.ptr 2 0),(48,fcs p.funcs),(49,nI p.funcs.n),(50,nI f),(79,lns ((p.funcs.f f).lines)),(80,nI ((p.funcs.f f).lines.n)),(81,nI k),(94,.bool (decide (((p.funcs.f f).lines.f k).op = 38)))],[(0,.row 32 (infC (infOf p))),(1,.row 41 (fcC (p.funcs.f f))),(2,.row 45 (lnC ((p.funcs.f f).lines.f k)))],3⟩ ([]) aN ?_
     refine gb 94 false (decide (((p.funcs.f f).lines.f k).op = 38)) (decide_eq_false (by omega)) ?_
     refine g0 pcs_ok 13 [] (.op 531004006 4 [cN 531004007,.b 3,cN 33187751]) ⟨[(3,.bool true),(5,.ptr 0 0),(8,nI f),(9,.ptr 1 0),(10,ints ((infOf p).ends.f f)),(11,iI (depP p f k)),(12,nI k),(13,.ptr 2 0),(14,.bool (decide (((p.funcs.f f).lines.f k).op = 39))),(48,fcs p.funcs),(49,nI p.funcs.n),(50,nI f),(79,lns ((p.funcs.f f).lines)),(80,nI ((p.funcs.f f).lines.n)),(81,nI k),(102,.bool (decide (((p.funcs.f f).lines.f k).op = 37)))],[(0,.row 32 (infC (infOf p))),(1,.row 41 (fcC (p.funcs.f f))),(2,.row 45 (lnC ((p.funcs.f f).lines.f k)))],3⟩ ([]) aN ?_
     by_cases h11:((p.funcs.f f).lines.f k).op = 37
     ·refine gb 102 true (decide (((p.funcs.f f).lines.f k).op = 37)) (decide_eq_true h11) ?_
      refine g0 pcs_ok 15 [] (.op 2124016028 0 [cN 2124016029,cN 1062008015,.b 3,cN 33187751]) ⟨[(3,.bool true),(5,.ptr 0 0),(8,nI f),(9,.ptr 1 0),(10,ints ((infOf p).ends.f f)),(11,iI (depP p f k)),(12,nI k),(13,.ptr 2 0),(14,.bool (decide (((p.funcs.f f).lines.f k).op = 39))),(15,.bool true),(48,fcs p.funcs),(49,nI p.funcs.n),(50,nI f),(79,lns ((p.funcs.f f).lines)),(80,nI ((p.funcs.f f).lines.n)),(81,nI k)],[(0,.row 32 (infC (infOf p))),(1,.row 41 (fcC (p.funcs.f f))),(2,.row 45 (lnC ((p.funcs.f f).lines.f k)))],3⟩ ([]) aN ?_
      refine go_to ⟨[(3,.bool true),(5,.ptr 0 0),(8,nI f),(9,.ptr 1 0),(10,ints ((infOf p).ends.f f)),(11,iI (depP p f k)),(12,nI k),(13,.ptr 2 0),(14,.bool false),(15,.bool true),(48,fcs p.funcs),(49,nI p.funcs.n),(50,nI f),(79,lns ((p.funcs.f f).lines)),(80,nI ((p.funcs.f f).lines.n)),(81,nI k)],[(0,.row 32 (infC (infOf p))),(1,.row 41 (fcC (p.funcs.f f))),(2,.row 45 (lnC ((p.funcs.f f).lines.f k)))],3⟩ (cvM hE [0,1,2] ⟨sR,sR,sR,sR,sR,sR,sR,sR,sL (.bool (decide (((p.funcs.f f).lines.f k).op = 39))) (Le.of_eq (congrArg AV.bool (by simp; omega))),toFR⟩ toHR) ?_
      exact hk10
     ·refine gb 102 false (decide (((p.funcs.f f).lines.f k).op = 37)) (decide_eq_false h11) ?_
      refine g0 pcs_ok 6 [] (.op 531004006 9 [cN 531004007,.b 3,cN 33187751]) ⟨[(3,.bool true),(5,.ptr 0 0),(8,nI f),(9,.ptr 1 0),(10,ints ((infOf p).ends.f f)),(11,iI (depP p f k)),(12,nI k),(13,.ptr 2 0),(14,.bool (decide (((p.funcs.f f).lines.f k).op = 39))),(48,fcs p.funcs),(49,nI p.funcs.n),(50,nI f),(79,lns ((p.funcs.f f).lines)),(80,nI ((p.funcs.f f).lines.n)),(81,nI k),(107,.bool (decide (((p.funcs.f f).lines.f k).op = 40)))],[(0,.row 32 (infC (infOf p))),(1,.row 41 (fcC (p.funcs.f f))),(2,.row 45 (lnC ((p.funcs.f f).lines.f k)))],3⟩ ([]) aN ?_
      by_cases h12:((p.funcs.f f).lines.f k).op = 40
      ·refine gb 107 true (decide (((p.funcs.f f).lines.f k).op = 40)) (decide_eq_true h12) ?_
       refine g0 pcs_ok 10 [] (.op 2124016028 0 [cN 2124016029,cN 1062008015,.b 3,cN 33187751]) ⟨[(3,.bool true),(5,.ptr 0 0),(8,nI f),(9,.ptr 1 0),(10,ints ((infOf p).ends.f f)),(11,iI (depP p f k)),(12,nI k),(13,.ptr 2 0),(14,.bool (decide (((p.funcs.f f).lines.f k).op = 39))),(15,.bool true),(48,fcs p.funcs),(49,nI p.funcs.n),(50,nI f),(79,lns ((p.funcs.f f).lines)),(80,nI ((p.funcs.f f).lines.n)),(81,nI k)],[(0,.row 32 (infC (infOf p))),(1,.row 41 (fcC (p.funcs.f f))),(2,.row 45 (lnC ((p.funcs.f f).lines.f k)))],3⟩ ([]) aN ?_
       refine go_to ⟨[(3,.bool true),(5,.ptr 0 0),(8,nI f),(9,.ptr 1 0),(10,ints ((infOf p).ends.f f)),(11,iI (depP p f k)),(12,nI k),(13,.ptr 2 0),(14,.bool false),(15,.bool true),(48,fcs p.funcs),(49,nI p.funcs.n),(50,nI f),(79,lns ((p.funcs.f f).lines)),(80,nI ((p.funcs.f f).lines.n)),(81,nI k)],[(0,.row 32 (infC (infOf p))),(1,.row 41 (fcC (p.funcs.f f))),(2,.row 45 (lnC ((p.funcs.f f).lines.f k)))],3⟩ (cvM hE [0,1,2] ⟨sR,sR,sR,sR,sR,sR,sR,sR,sL (.bool (decide (((p.funcs.f f).lines.f k).op = 39))) (Le.of_eq (congrArg AV.bool (by simp; omega))),toFR⟩ toHR) ?_
       exact hk10
      ·refine gb 107 false (decide (((p.funcs.f f).lines.f k).op = 40)) (decide_eq_false h12) ?_
       refine g0 pcs_ok 10 [] (.op 2124016028 0 [cN 2124016029,cN 1062008015,.b 3,cN 33187751]) ⟨[(3,.bool true),(5,.ptr 0 0),(8,nI f),(9,.ptr 1 0),(10,ints ((infOf p).ends.f f)),(11,iI (depP p f k)),(12,nI k),(13,.ptr 2 0),(14,.bool (decide (((p.funcs.f f).lines.f k).op = 39))),(15,.bool (decide (((p.funcs.f f).lines.f k).op = 41))),(48,fcs p.funcs),(49,nI p.funcs.n),(50,nI f),(79,lns ((p.funcs.f f).lines)),(80,nI ((p.funcs.f f).lines.n)),(81,nI k)],[(0,.row 32 (infC (infOf p))),(1,.row 41 (fcC (p.funcs.f f))),(2,.row 45 (lnC ((p.funcs.f f).lines.f k)))],3⟩ ([]) aN ?_
       refine go_to ⟨[(3,.bool true),(5,.ptr 0 0),(8,nI f),(9,.ptr 1 0),(10,ints ((infOf p).ends.f f)),(11,iI (depP p f k)),(12,nI k),(13,.ptr 2 0),(14,.bool false),(15,.bool true),(48,fcs p.funcs),(49,nI p.funcs.n),(50,nI f),(79,lns ((p.funcs.f f).lines)),(80,nI ((p.funcs.f f).lines.n)),(81,nI k)],[(0,.row 32 (infC (infOf p))),(1,.row 41 (fcC (p.funcs.f f))),(2,.row 45 (lnC ((p.funcs.f f).lines.f k)))],3⟩ (cvM hE [0,1,2] ⟨sR,sR,sR,sR,sR,sR,sR,sR,sL (.bool (decide (((p.funcs.f f).lines.f k).op = 39))) (Le.of_eq (congrArg AV.bool (by simp; omega))),sL (.bool (decide (((p.funcs.f f).lines.f k).op = 41))) (Le.of_eq (congrArg AV.bool (by simp; omega))),toFR⟩ toHR) ?_
       exact hk10
    ·skip
     refine g0 pcs_ok 12 [] (.go [cN 4248032061,cN 2124016031,.b 3,cN 33187751]) ⟨[(3,.bool true),(5,.ptr 0 0),(8,nI f),(9,.ptr 1 0),(10,ints ((infOf p).ends.f f)),(11,iI (depP p f k)),(12,nI k),(13,.ptr 2 0),(14,.bool false),(15,.bool true),(48,fcs p.funcs),(49,nI p.funcs.n),(50,nI f),(79,lns ((p.funcs.f f).lines)),(80,nI ((p.funcs.f f).lines.n)),(81,nI k),(117,.bool (decide (((p.funcs.f f).lines.f k).op = 42)))],[(0,.row 32 (infC (infOf p))),(1,.row 41 (fcC (p.funcs.f f))),(2,.row 45 (lnC ((p.funcs.f f).lines.f k)))],3⟩ ([]) aN ?_
     refine gb 117 false (decide (((p.funcs.f f).lines.f k).op = 42)) (decide_eq_false (by omega)) ?_
     refine g0 pcs_ok 5 [(135,.bool false),(145,.bool false),(157,.bool false)] (.go [cN 8496064125,cN 4248032063,.b 3,cN 33187751]) ⟨[(3,.bool true),(5,.ptr 0 0),(8,nI f),(9,.ptr 1 0),(10,ints ((infOf p).ends.f f)),(11,iI (depP p f k)),(12,nI k),(14,.bool false),(48,fcs p.funcs),(49,nI p.funcs.n),(50,nI f),(79,lns ((p.funcs.f f).lines)),(80,nI ((p.funcs.f f).lines.n)),(81,nI k),(160,.bool (decide ((depP p f k) < 0)))],[(0,.row 32 (infC (infOf p))),(1,.row 41 (fcC (p.funcs.f f)))],3⟩ ([.p ((AV.bool (decide ((((infOf p).parent.f f).f k) ≥ (k:Int)))) = (AV.bool false)),.b (ixB (k:Int) (((infOf p).parent.f f).n)),.b (ixB (f:Int) ((infOf p).parent.n)),.p ((AV.bool (decide ((((infOf p).ends.f f).f k) ≥ ((p.funcs.f f).lines.n:Int)))) = (AV.bool false)),.b (ixB (k:Int) (((infOf p).ends.f f).n)),.p ((AV.bool (!((decide ((((infOf p).ends.f f).f k) ≥ 0)) == true))) = (AV.bool false)),.b (ixB (k:Int) (((infOf p).ends.f f).n))]) (aP (by exact dF (by omega)) (aD (by omega) (aD (by omega) (aP (by exact dF (by omega)) (aD (by omega) (aP (by exact congrArg AV.bool (by simp; omega)) (aD (by omega) aN))))))) ?_
     refine gb 160 false (decide ((depP p f k) < 0)) (decide_eq_false (by omega)) ?_
     refine g0 pcs_ok 13 [] (.go [cN 67968513018,.b 4,cN 16992128255,.b 3,cN 33187751]) ⟨[(3,.bool true),(5,.ptr 0 0),(8,nI f),(9,.ptr 1 0),(10,ints ((infOf p).ends.f f)),(11,iI (depP p f k)),(12,nI k),(14,.bool false),(16,nI k),(17,iI 0),(48,fcs p.funcs),(49,nI p.funcs.n),(50,nI f),(79,lns ((p.funcs.f f).lines)),(80,nI ((p.funcs.f f).lines.n)),(81,nI k)],[(0,.row 32 (infC (infOf p))),(1,.row 41 (fcC (p.funcs.f f)))],3⟩ ([]) aN ?_
     refine go_loop (fun _=>⟨[(3,.bool true),(5,.ptr 0 0),(8,nI f),(9,.ptr 1 0),(10,ints ((infOf p).ends.f f)),(11,iI (depP p f k)),(12,nI k),(14,.bool false),(16,nI k),(17,iI 0),(48,fcs p.funcs),(49,nI p.funcs.n),(50,nI f),(79,lns ((p.funcs.f f).lines)),(80,nI ((p.funcs.f f).lines.n)),(81,nI k)],[(0,.row 32 (infC (infOf p))),(1,.row 41 (fcC (p.funcs.f f)))],2⟩) (fun _=>True) (fun _=>0) () rfl (by trivial) (cvR hE [0,1]) ?_
     rintro ⟨⟩ hR130
     have hR13:True:=hR130
     refine g0 pcs_ok 15 [] (.go [cN 1087496208291,cN 271874052073]) ⟨[(3,.bool true),(5,.ptr 0 0),(8,nI f),(9,.ptr 1 0),(10,ints ((infOf p).ends.f f)),(11,iI (depP p f k)),(12,nI k),(14,.bool false),(16,nI k),(48,fcs p.funcs),(49,nI p.funcs.n),(50,nI f),(79,lns ((p.funcs.f f).lines)),(80,nI ((p.funcs.f f).lines.n)),(81,nI k)],[(0,.row 32 (infC (infOf p))),(1,.row 41 (fcC (p.funcs.f f)))],2⟩ ([]) aN ?_
     refine go_brk rfl rfl rfl ?_
     refine g0 pcs_ok 19 [] (.go []) ⟨[(3,.bool true),(5,.ptr 0 0),(8,nI f),(9,.ptr 1 0),(10,ints ((infOf p).ends.f f)),(11,iI (depP p f k)),(48,fcs p.funcs),(49,nI p.funcs.n),(50,nI f),(79,lns ((p.funcs.f f).lines)),(80,nI ((p.funcs.f f).lines.n)),(81,nI (k + 1))],[(0,.row 32 (infC (infOf p))),(1,.row 41 (fcC (p.funcs.f f)))],2⟩ ([.b (rng (((k + 1):Nat):Int))]) (aR (by omega) (by omega) aN) ?_
     refine go_again ((k + 1)) (by first | (dsimp only; omega) | omega) (by omega) (cvM hE [0,1] ⟨sR,sR,sR,sR,sR,sL (iI (depP p f k)) (Le.of_eq (congrArg (AV.int .i64) (by rw [depP_s]; omega))),toFR⟩ toHR)
   ·have hds:=ds_end hcl
    rw [hds] at hd1
    refine g0 pcs_ok 5 [] (.op 265502002 4 [cN 265502003,.b 3,cN 33187751]) ⟨[(3,.bool true),(5,.ptr 0 0),(8,nI f),(9,.ptr 1 0),(10,ints ((infOf p).ends.f f)),(11,iI (depP p f k)),(12,nI k),(13,.ptr 2 0),(48,fcs p.funcs),(49,nI p.funcs.n),(50,nI f),(79,lns ((p.funcs.f f).lines)),(80,nI ((p.funcs.f f).lines.n)),(81,nI k),(89,.bool (decide (((p.funcs.f f).lines.f k).op = 36)))],[(0,.row 32 (infC (infOf p))),(1,.row 41 (fcC (p.funcs.f f))),(2,.row 45 (lnC ((p.funcs.f f).lines.f k)))],3⟩ ([]) aN ?_
    refine gb 89 false (decide (((p.funcs.f f).lines.f k).op = 36)) (decide_eq_false (by omega)) ?_
    refine g0 pcs_ok 6 [] (.op 265502002 9 [cN 265502003,.b 3,cN 33187751]) ⟨[(3,.bool true),(5,.ptr 0 0),(8,nI f),(9,.ptr 1 0),(10,ints ((infOf p).ends.f f)),(11,iI (depP p f k)),(12,nI k),(13,.ptr 2 0),(48,fcs p.funcs),(49,nI p.funcs.n),(50,nI f),(79,lns ((p.funcs.f f).lines)),(80,nI ((p.funcs.f f).lines.n)),(81,nI k),(94,.bool (decide (((p.funcs.f f).lines.f k).op = 38)))],[(0,.row 32 (infC (infOf p))),(1,.row 41 (fcC (p.funcs.f f))),(2,.row 45 (lnC ((p.funcs.f f).lines.f k)))],3⟩ ([]) aN ?_
    refine gb 94 false (decide (((p.funcs.f f).lines.f k).op = 38)) (decide_eq_false (by omega)) ?_
    refine g0 pcs_ok 13 [] (.op 531004006 4 [cN 531004007,.b 3,cN 33187751]) ⟨[(3,.bool true),(5,.ptr 0 0),(8,nI f),(9,.ptr 1 0),(10,ints ((infOf p).ends.f f)),(11,iI (depP p f k)),(12,nI k),(13,.ptr 2 0),(14,.bool (decide (((p.funcs.f f).lines.f k).op = 39))),(48,fcs p.funcs),(49,nI p.funcs.n),(50,nI f),(79,lns ((p.funcs.f f).lines)),(80,nI ((p.funcs.f f).lines.n)),(81,nI k),(102,.bool (decide (((p.funcs.f f).lines.f k).op = 37)))],[(0,.row 32 (infC (infOf p))),(1,.row 41 (fcC (p.funcs.f f))),(2,.row 45 (lnC ((p.funcs.f f).lines.f k)))],3⟩ ([]) aN ?_
    refine gb 102 false (decide (((p.funcs.f f).lines.f k).op = 37)) (decide_eq_false (by omega)) ?_
    refine g0 pcs_ok 6 [] (.op 531004006 9 [cN 531004007,.b 3,cN 33187751]) ⟨[(3,.bool true),(5,.ptr 0 0),(8,nI f),(9,.ptr 1 0),(10,ints ((infOf p).ends.f f)),(11,iI (depP p f k)),(12,nI k),(13,.ptr 2 0),(14,.bool (decide (((p.funcs.f f).lines.f k).op = 39))),(48,fcs p.funcs),(49,nI p.funcs.n),(50,nI f),(79,lns ((p.funcs.f f).lines)),(80,nI ((p.funcs.f f).lines.n)),(81,nI k),(107,.bool (decide (((p.funcs.f f).lines.f k).op = 40)))],[(0,.row 32 (infC (infOf p))),(1,.row 41 (fcC (p.funcs.f f))),(2,.row 45 (lnC ((p.funcs.f f).lines.f k)))],3⟩ ([]) aN ?_
    refine gb 107 false (decide (((p.funcs.f f).lines.f k).op = 40)) (decide_eq_false (by omega)) ?_
    refine g0 pcs_ok 12 [] (.go [cN 2124016029,cN 1062008015,.b 3,cN 33187751]) ⟨[(3,.bool true),(5,.ptr 0 0),(8,nI f),(9,.ptr 1 0),(10,ints ((infOf p).ends.f f)),(11,iI (depP p f k)),(12,nI k),(13,.ptr 2 0),(14,.bool (decide (((p.funcs.f f).lines.f k).op = 39))),(15,.bool (decide (((p.funcs.f f).lines.f k).op = 41))),(48,fcs p.funcs),(49,nI p.funcs.n),(50,nI f),(79,lns ((p.funcs.f f).lines)),(80,nI ((p.funcs.f f).lines.n)),(81,nI k),(112,.bool (decide (((p.funcs.f f).lines.f k).op = 39)))],[(0,.row 32 (infC (infOf p))),(1,.row 41 (fcC (p.funcs.f f))),(2,.row 45 (lnC ((p.funcs.f f).lines.f k)))],3⟩ ([]) aN ?_
    refine gb 112 false (decide (((p.funcs.f f).lines.f k).op = 39)) (decide_eq_false (by omega)) ?_
    refine g0 pcs_ok 9 [] (.go [cN 4248032061,cN 2124016031,.b 3,cN 33187751]) ⟨[(3,.bool true),(5,.ptr 0 0),(8,nI f),(9,.ptr 1 0),(10,ints ((infOf p).ends.f f)),(11,iI (depP p f k)),(12,nI k),(13,.ptr 2 0),(14,.bool (decide (((p.funcs.f f).lines.f k).op = 39))),(15,.bool (decide (((p.funcs.f f).lines.f k).op = 41))),(48,fcs p.funcs),(49,nI p.funcs.n),(50,nI f),(79,lns ((p.funcs.f f).lines)),(80,nI ((p.funcs.f f).lines.n)),(81,nI k),(117,.bool (decide (((p.funcs.f f).lines.f k).op = 42)))],[(0,.row 32 (infC (infOf p))),(1,.row 41 (fcC (p.funcs.f f))),(2,.row 45 (lnC ((p.funcs.f f).lines.f k)))],3⟩ ([]) aN ?_
    refine gb 117 true (decide (((p.funcs.f f).lines.f k).op = 42)) (decide_eq_true (by omega)) ?_
    refine g0 pcs_ok 9 [(126,.bool false),(129,.bool false),(135,.bool false),(145,.bool false),(157,.bool false)] (.go [cN 8496064125,cN 4248032063,.b 3,cN 33187751]) ⟨[(3,.bool true),(5,.ptr 0 0),(8,nI f),(9,.ptr 1 0),(10,ints ((infOf p).ends.f f)),(11,iI ((depP p f k) - 1)),(12,nI k),(14,.bool (decide (((p.funcs.f f).lines.f k).op = 39))),(48,fcs p.funcs),(49,nI p.funcs.n),(50,nI f),(79,lns ((p.funcs.f f).lines)),(80,nI ((p.funcs.f f).lines.n)),(81,nI k),(160,.bool (decide (((depP p f k) - 1) < 0)))],[(0,.row 32 (infC (infOf p))),(1,.row 41 (fcC (p.funcs.f f)))],3⟩ ([.p ((AV.bool (decide ((((infOf p).parent.f f).f k) ≥ (k:Int)))) = (AV.bool false)),.b (ixB (k:Int) (((infOf p).parent.f f).n)),.b (ixB (f:Int) ((infOf p).parent.n)),.p ((AV.bool (decide ((((infOf p).ends.f f).f k) ≥ ((p.funcs.f f).lines.n:Int)))) = (AV.bool false)),.b (ixB (k:Int) (((infOf p).ends.f f).n)),.p ((AV.bool (!((decide ((((infOf p).ends.f f).f k) ≥ 0)) == (decide (((p.funcs.f f).lines.f k).op = 42))))) = (AV.bool false)),.p ((AV.bool (decide (((p.funcs.f f).lines.f k).op = 41))) = (AV.bool false)),.p ((AV.bool (decide (((p.funcs.f f).lines.f k).op = 39))) = (AV.bool false)),.b (ixB (k:Int) (((infOf p).ends.f f).n)),.b (rng ((depP p f k) - 1))]) (aP (by exact dF (by omega)) (aD (by omega) (aD (by omega) (aP (by exact dF (by omega)) (aD (by omega) (aP (by exact congrArg AV.bool (by simp; omega)) (aP (by exact dF (by omega)) (aP (by exact dF (by omega)) (aD (by omega) (aR (by omega) (by omega) aN)))))))))) ?_
    refine gb 160 false (decide (((depP p f k) - 1) < 0)) (decide_eq_false (by omega)) ?_
    refine g0 pcs_ok 13 [] (.go [cN 67968513018,.b 4,cN 16992128255,.b 3,cN 33187751]) ⟨[(3,.bool true),(5,.ptr 0 0),(8,nI f),(9,.ptr 1 0),(10,ints ((infOf p).ends.f f)),(11,iI ((depP p f k) - 1)),(12,nI k),(14,.bool (decide (((p.funcs.f f).lines.f k).op = 39))),(16,nI k),(17,iI 0),(48,fcs p.funcs),(49,nI p.funcs.n),(50,nI f),(79,lns ((p.funcs.f f).lines)),(80,nI ((p.funcs.f f).lines.n)),(81,nI k)],[(0,.row 32 (infC (infOf p))),(1,.row 41 (fcC (p.funcs.f f)))],3⟩ ([]) aN ?_
    refine go_loop (fun _=>⟨[(3,.bool true),(5,.ptr 0 0),(8,nI f),(9,.ptr 1 0),(10,ints ((infOf p).ends.f f)),(11,iI ((depP p f k) - 1)),(12,nI k),(14,.bool (decide (((p.funcs.f f).lines.f k).op = 39))),(16,nI k),(17,iI 0),(48,fcs p.funcs),(49,nI p.funcs.n),(50,nI f),(79,lns ((p.funcs.f f).lines)),(80,nI ((p.funcs.f f).lines.n)),(81,nI k)],[(0,.row 32 (infC (infOf p))),(1,.row 41 (fcC (p.funcs.f f)))],2⟩) (fun _=>True) (fun _=>0) () rfl (by trivial) (cvR hE [0,1]) ?_
    rintro ⟨⟩ hR140
    have hR14:True:=hR140
    refine g0 pcs_ok 5 [] (.op 543748104144 2 [cN 543748104145,cN 271874052073]) ⟨[(3,.bool true),(5,.ptr 0 0),(8,nI f),(9,.ptr 1 0),(10,ints ((infOf p).ends.f f)),(11,iI ((depP p f k) - 1)),(12,nI k),(14,.bool (decide (((p.funcs.f f).lines.f k).op = 39))),(16,nI k),(17,iI 0),(48,fcs p.funcs),(49,nI p.funcs.n),(50,nI f),(79,lns ((p.funcs.f f).lines)),(80,nI ((p.funcs.f f).lines.n)),(81,nI k),(163,.bool (decide (((p.funcs.f f).lines.f k).op = 39)))],[(0,.row 32 (infC (infOf p))),(1,.row 41 (fcC (p.funcs.f f)))],2⟩ ([]) aN ?_
    refine gb 163 false (decide (((p.funcs.f f).lines.f k).op = 39)) (decide_eq_false (by omega)) ?_
    refine g0 pcs_ok 11 [] (.go [cN 1087496208291,cN 271874052073]) ⟨[(3,.bool true),(5,.ptr 0 0),(8,nI f),(9,.ptr 1 0),(10,ints ((infOf p).ends.f f)),(11,iI ((depP p f k) - 1)),(12,nI k),(14,.bool (decide (((p.funcs.f f).lines.f k).op = 39))),(16,nI k),(48,fcs p.funcs),(49,nI p.funcs.n),(50,nI f),(79,lns ((p.funcs.f f).lines)),(80,nI ((p.funcs.f f).lines.n)),(81,nI k)],[(0,.row 32 (infC (infOf p))),(1,.row 41 (fcC (p.funcs.f f)))],2⟩ ([]) aN ?_
    refine go_brk rfl rfl rfl ?_
    refine g0 pcs_ok 4 [] (.op 33984256510 2 [cN 33984256511,.b 3,cN 33187751]) ⟨[(3,.bool true),(5,.ptr 0 0),(8,nI f),(9,.ptr 1 0),(10,ints ((infOf p).ends.f f)),(11,iI ((depP p f k) - 1)),(12,nI k),(16,nI k),(48,fcs p.funcs),(49,nI p.funcs.n),(50,nI f),(79,lns ((p.funcs.f f).lines)),(80,nI ((p.funcs.f f).lines.n)),(81,nI k),(189,.bool (decide (((p.funcs.f f).lines.f k).op = 39)))],[(0,.row 32 (infC (infOf p))),(1,.row 41 (fcC (p.funcs.f f)))],2⟩ ([]) aN ?_
    refine gb 189 false (decide (((p.funcs.f f).lines.f k).op = 39)) (decide_eq_false (by omega)) ?_
    refine g0 pcs_ok 16 [] (.go []) ⟨[(3,.bool true),(5,.ptr 0 0),(8,nI f),(9,.ptr 1 0),(10,ints ((infOf p).ends.f f)),(11,iI ((depP p f k) - 1)),(48,fcs p.funcs),(49,nI p.funcs.n),(50,nI f),(79,lns ((p.funcs.f f).lines)),(80,nI ((p.funcs.f f).lines.n)),(81,nI (k + 1))],[(0,.row 32 (infC (infOf p))),(1,.row 41 (fcC (p.funcs.f f)))],2⟩ ([.b (rng (((k + 1):Nat):Int))]) (aR (by omega) (by omega) aN) ?_
    refine go_again ((k + 1)) (by first | (dsimp only; omega) | omega) (by omega) (cvM hE [0,1] ⟨sR,sR,sR,sR,sR,sL (iI ((depP p f k) - 1)) (Le.of_eq (congrArg (AV.int .i64) (by rw [depP_s]; omega))),toFR⟩ toHR)
   ·have hds:=ds_no (x:=((p.funcs.f f).lines.f k).op) (by omega) (by omega)
    rw [hds] at hd1
    refine g0 pcs_ok 5 [] (.op 265502002 4 [cN 265502003,.b 3,cN 33187751]) ⟨[(3,.bool true),(5,.ptr 0 0),(8,nI f),(9,.ptr 1 0),(10,ints ((infOf p).ends.f f)),(11,iI (depP p f k)),(12,nI k),(13,.ptr 2 0),(48,fcs p.funcs),(49,nI p.funcs.n),(50,nI f),(79,lns ((p.funcs.f f).lines)),(80,nI ((p.funcs.f f).lines.n)),(81,nI k),(89,.bool (decide (((p.funcs.f f).lines.f k).op = 36)))],[(0,.row 32 (infC (infOf p))),(1,.row 41 (fcC (p.funcs.f f))),(2,.row 45 (lnC ((p.funcs.f f).lines.f k)))],3⟩ ([]) aN ?_
    refine gb 89 false (decide (((p.funcs.f f).lines.f k).op = 36)) (decide_eq_false (by omega)) ?_
    refine g0 pcs_ok 6 [] (.op 265502002 9 [cN 265502003,.b 3,cN 33187751]) ⟨[(3,.bool true),(5,.ptr 0 0),(8,nI f),(9,.ptr 1 0),(10,ints ((infOf p).ends.f f)),(11,iI (depP p f k)),(12,nI k),(13,.ptr 2 0),(48,fcs p.funcs),(49,nI p.funcs.n),(50,nI f),(79,lns ((p.funcs.f f).lines)),(80,nI ((p.funcs.f f).lines.n)),(81,nI k),(94,.bool (decide (((p.funcs.f f).lines.f k).op = 38)))],[(0,.row 32 (infC (infOf p))),(1,.row 41 (fcC (p.funcs.f f))),(2,.row 45 (lnC ((p.funcs.f f).lines.f k)))],3⟩ ([]) aN ?_
    refine gb 94 false (decide (((p.funcs.f f).lines.f k).op = 38)) (decide_eq_false (by omega)) ?_
    refine g0 pcs_ok 13 [] (.op 531004006 4 [cN 531004007,.b 3,cN 33187751]) ⟨[(3,.bool true),(5,.ptr 0 0),(8,nI f),(9,.ptr 1 0),(10,ints ((infOf p).ends.f f)),(11,iI (depP p f k)),(12,nI k),(13,.ptr 2 0),(14,.bool (decide (((p.funcs.f f).lines.f k).op = 39))),(48,fcs p.funcs),(49,nI p.funcs.n),(50,nI f),(79,lns ((p.funcs.f f).lines)),(80,nI ((p.funcs.f f).lines.n)),(81,nI k),(102,.bool (decide (((p.funcs.f f).lines.f k).op = 37)))],[(0,.row 32 (infC (infOf p))),(1,.row 41 (fcC (p.funcs.f f))),(2,.row 45 (lnC ((p.funcs.f f).lines.f k)))],3⟩ ([]) aN ?_
    refine gb 102 false (decide (((p.funcs.f f).lines.f k).op = 37)) (decide_eq_false (by omega)) ?_
    refine g0 pcs_ok 6 [] (.op 531004006 9 [cN 531004007,.b 3,cN 33187751]) ⟨[(3,.bool true),(5,.ptr 0 0),(8,nI f),(9,.ptr 1 0),(10,ints ((infOf p).ends.f f)),(11,iI (depP p f k)),(12,nI k),(13,.ptr 2 0),(14,.bool (decide (((p.funcs.f f).lines.f k).op = 39))),(48,fcs p.funcs),(49,nI p.funcs.n),(50,nI f),(79,lns ((p.funcs.f f).lines)),(80,nI ((p.funcs.f f).lines.n)),(81,nI k),(107,.bool (decide (((p.funcs.f f).lines.f k).op = 40)))],[(0,.row 32 (infC (infOf p))),(1,.row 41 (fcC (p.funcs.f f))),(2,.row 45 (lnC ((p.funcs.f f).lines.f k)))],3⟩ ([]) aN ?_
    refine gb 107 false (decide (((p.funcs.f f).lines.f k).op = 40)) (decide_eq_false (by omega)) ?_
    refine g0 pcs_ok 12 [] (.go [cN 2124016029,cN 1062008015,.b 3,cN 33187751]) ⟨[(3,.bool true),(5,.ptr 0 0),(8,nI f),(9,.ptr 1 0),(10,ints ((infOf p).ends.f f)),(11,iI (depP p f k)),(12,nI k),(13,.ptr 2 0),(14,.bool (decide (((p.funcs.f f).lines.f k).op = 39))),(15,.bool (decide (((p.funcs.f f).lines.f k).op = 41))),(48,fcs p.funcs),(49,nI p.funcs.n),(50,nI f),(79,lns ((p.funcs.f f).lines)),(80,nI ((p.funcs.f f).lines.n)),(81,nI k),(112,.bool (decide (((p.funcs.f f).lines.f k).op = 39)))],[(0,.row 32 (infC (infOf p))),(1,.row 41 (fcC (p.funcs.f f))),(2,.row 45 (lnC ((p.funcs.f f).lines.f k)))],3⟩ ([]) aN ?_
    refine gb 112 false (decide (((p.funcs.f f).lines.f k).op = 39)) (decide_eq_false (by omega)) ?_
    refine g0 pcs_ok 9 [] (.go [cN 4248032061,cN 2124016031,.b 3,cN 33187751]) ⟨[(3,.bool true),(5,.ptr 0 0),(8,nI f),(9,.ptr 1 0),(10,ints ((infOf p).ends.f f)),(11,iI (depP p f k)),(12,nI k),(13,.ptr 2 0),(14,.bool (decide (((p.funcs.f f).lines.f k).op = 39))),(15,.bool (decide (((p.funcs.f f).lines.f k).op = 41))),(48,fcs p.funcs),(49,nI p.funcs.n),(50,nI f),(79,lns ((p.funcs.f f).lines)),(80,nI ((p.funcs.f f).lines.n)),(81,nI k),(117,.bool (decide (((p.funcs.f f).lines.f k).op = 42)))],[(0,.row 32 (infC (infOf p))),(1,.row 41 (fcC (p.funcs.f f))),(2,.row 45 (lnC ((p.funcs.f f).lines.f k)))],3⟩ ([]) aN ?_
    refine gb 117 false (decide (((p.funcs.f f).lines.f k).op = 42)) (decide_eq_false (by omega)) ?_
    refine g0 pcs_ok 5 [(126,.bool false),(129,.bool false),(135,.bool false),(145,.bool false),(157,.bool false)] (.go [cN 8496064125,cN 4248032063,.b 3,cN 33187751]) ⟨[(3,.bool true),(5,.ptr 0 0),(8,nI f),(9,.ptr 1 0),(10,ints ((infOf p).ends.f f)),(11,iI (depP p f k)),(12,nI k),(14,.bool (decide (((p.funcs.f f).lines.f k).op = 39))),(48,fcs p.funcs),(49,nI p.funcs.n),(50,nI f),(79,lns ((p.funcs.f f).lines)),(80,nI ((p.funcs.f f).lines.n)),(81,nI k),(160,.bool (decide ((depP p f k) < 0)))],[(0,.row 32 (infC (infOf p))),(1,.row 41 (fcC (p.funcs.f f)))],3⟩ ([.p ((AV.bool (decide ((((infOf p).parent.f f).f k) ≥ (k:Int)))) = (AV.bool false)),.b (ixB (k:Int) (((infOf p).parent.f f).n)),.b (ixB (f:Int) ((infOf p).parent.n)),.p ((AV.bool (decide ((((infOf p).ends.f f).f k) ≥ ((p.funcs.f f).lines.n:Int)))) = (AV.bool false)),.b (ixB (k:Int) (((infOf p).ends.f f).n)),.p ((AV.bool (!((decide ((((infOf p).ends.f f).f k) ≥ 0)) == (decide (((p.funcs.f f).lines.f k).op = 42))))) = (AV.bool false)),.p ((AV.bool (decide (((p.funcs.f f).lines.f k).op = 41))) = (AV.bool false)),.p ((AV.bool (decide (((p.funcs.f f).lines.f k).op = 39))) = (AV.bool false)),.b (ixB (k:Int) (((infOf p).ends.f f).n))]) (aP (by exact dF (by omega)) (aD (by omega) (aD (by omega) (aP (by exact dF (by omega)) (aD (by omega) (aP (by exact congrArg AV.bool (by simp; omega)) (aP (by exact dF (by omega)) (aP (by exact dF (by omega)) (aD (by omega) aN))))))))) ?_
    refine gb 160 false (decide ((depP p f k) < 0)) (decide_eq_false (by omega)) ?_
    refine g0 pcs_ok 13 [] (.go [cN 67968513018,.b 4,cN 16992128255,.b 3,cN 33187751]) ⟨[(3,.bool true),(5,.ptr 0 0),(8,nI f),(9,.ptr 1 0),(10,ints ((infOf p).ends.f f)),(11,iI (depP p f k)),(12,nI k),(14,.bool (decide (((p.funcs.f f).lines.f k).op = 39))),(16,nI k),(17,iI 0),(48,fcs p.funcs),(49,nI p.funcs.n),(50,nI f),(79,lns ((p.funcs.f f).lines)),(80,nI ((p.funcs.f f).lines.n)),(81,nI k)],[(0,.row 32 (infC (infOf p))),(1,.row 41 (fcC (p.funcs.f f)))],3⟩ ([]) aN ?_
    refine go_loop (fun _=>⟨[(3,.bool true),(5,.ptr 0 0),(8,nI f),(9,.ptr 1 0),(10,ints ((infOf p).ends.f f)),(11,iI (depP p f k)),(12,nI k),(14,.bool (decide (((p.funcs.f f).lines.f k).op = 39))),(16,nI k),(17,iI 0),(48,fcs p.funcs),(49,nI p.funcs.n),(50,nI f),(79,lns ((p.funcs.f f).lines)),(80,nI ((p.funcs.f f).lines.n)),(81,nI k)],[(0,.row 32 (infC (infOf p))),(1,.row 41 (fcC (p.funcs.f f)))],2⟩) (fun _=>True) (fun _=>0) () rfl (by trivial) (cvR hE [0,1]) ?_
    rintro ⟨⟩ hR150
    have hR15:True:=hR150
    refine g0 pcs_ok 5 [] (.op 543748104144 2 [cN 543748104145,cN 271874052073]) ⟨[(3,.bool true),(5,.ptr 0 0),(8,nI f),(9,.ptr 1 0),(10,ints ((infOf p).ends.f f)),(11,iI (depP p f k)),(12,nI k),(14,.bool (decide (((p.funcs.f f).lines.f k).op = 39))),(16,nI k),(17,iI 0),(48,fcs p.funcs),(49,nI p.funcs.n),(50,nI f),(79,lns ((p.funcs.f f).lines)),(80,nI ((p.funcs.f f).lines.n)),(81,nI k),(163,.bool (decide (((p.funcs.f f).lines.f k).op = 39)))],[(0,.row 32 (infC (infOf p))),(1,.row 41 (fcC (p.funcs.f f)))],2⟩ ([]) aN ?_
    refine gb 163 false (decide (((p.funcs.f f).lines.f k).op = 39)) (decide_eq_false (by omega)) ?_
    refine g0 pcs_ok 11 [] (.go [cN 1087496208291,cN 271874052073]) ⟨[(3,.bool true),(5,.ptr 0 0),(8,nI f),(9,.ptr 1 0),(10,ints ((infOf p).ends.f f)),(11,iI (depP p f k)),(12,nI k),(14,.bool (decide (((p.funcs.f f).lines.f k).op = 39))),(16,nI k),(48,fcs p.funcs),(49,nI p.funcs.n),(50,nI f),(79,lns ((p.funcs.f f).lines)),(80,nI ((p.funcs.f f).lines.n)),(81,nI k)],[(0,.row 32 (infC (infOf p))),(1,.row 41 (fcC (p.funcs.f f)))],2⟩ ([]) aN ?_
    refine go_brk rfl rfl rfl ?_
    refine g0 pcs_ok 4 [] (.op 33984256510 2 [cN 33984256511,.b 3,cN 33187751]) ⟨[(3,.bool true),(5,.ptr 0 0),(8,nI f),(9,.ptr 1 0),(10,ints ((infOf p).ends.f f)),(11,iI (depP p f k)),(12,nI k),(16,nI k),(48,fcs p.funcs),(49,nI p.funcs.n),(50,nI f),(79,lns ((p.funcs.f f).lines)),(80,nI ((p.funcs.f f).lines.n)),(81,nI k),(189,.bool (decide (((p.funcs.f f).lines.f k).op = 39)))],[(0,.row 32 (infC (infOf p))),(1,.row 41 (fcC (p.funcs.f f)))],2⟩ ([]) aN ?_
    refine gb 189 false (decide (((p.funcs.f f).lines.f k).op = 39)) (decide_eq_false (by omega)) ?_
    refine g0 pcs_ok 16 [] (.go []) ⟨[(3,.bool true),(5,.ptr 0 0),(8,nI f),(9,.ptr 1 0),(10,ints ((infOf p).ends.f f)),(11,iI (depP p f k)),(48,fcs p.funcs),(49,nI p.funcs.n),(50,nI f),(79,lns ((p.funcs.f f).lines)),(80,nI ((p.funcs.f f).lines.n)),(81,nI (k + 1))],[(0,.row 32 (infC (infOf p))),(1,.row 41 (fcC (p.funcs.f f)))],2⟩ ([.b (rng (((k + 1):Nat):Int))]) (aR (by omega) (by omega) aN) ?_
    refine go_again ((k + 1)) (by first | (dsimp only; omega) | omega) (by omega) (cvM hE [0,1] ⟨sR,sR,sR,sR,sR,sL (iI (depP p f k)) (Le.of_eq (congrArg (AV.int .i64) (by rw [depP_s]; omega))),toFR⟩ toHR)
  ·refine gb 82 false (decide ((k:Int) < ((p.funcs.f f).lines.n:Int))) (decide_eq_false h4) ?_
   refine g0 pcs_ok 1 [] (.go [cN 33187749,cN 16593875]) ⟨[(3,.bool true),(5,.ptr 0 0),(11,iI (depP p f k)),(48,fcs p.funcs),(49,nI p.funcs.n),(50,nI f)],[(0,.row 32 (infC (infOf p)))],2⟩ ([]) aN ?_
   refine go_brk rfl rfl rfl ?_
   refine g0 pcs_ok 5 [] (.go [cN 1037119,.b 1,cN 8103]) ⟨[(3,.bool true),(5,.ptr 0 0),(48,fcs p.funcs),(49,nI p.funcs.n),(50,nI f),(199,.bool (!decide ((depP p f k) = 0)))],[(0,.row 32 (infC (infOf p)))],2⟩ ([]) aN ?_
   refine gb 199 false (!decide ((depP p f k) = 0)) (ndecF (by have hkk:k = (p.funcs.f f).lines.n:=(by omega); rw [hkk]; exact hdp.1)) ?_
   refine g0 pcs_ok 7 [] (.go []) ⟨[(3,.bool true),(5,.ptr 0 0),(48,fcs p.funcs),(49,nI p.funcs.n),(50,nI (f + 1))],[(0,.row 32 (infC (infOf p)))],2⟩ ([.b (rng (((f + 1):Nat):Int))]) (aR (by omega) (by omega) aN) ?_
   refine go_again ((f + 1)) (by first | (dsimp only; omega) | omega) (by omega) (cvR hE [0])
 ·refine gb 51 false (decide ((f:Int) < (p.funcs.n:Int))) (decide_eq_false h2) ?_
  refine g0 pcs_ok 1 [] (.go [cN 8101,cN 4051]) ⟨[(3,.bool true)],[],1⟩ ([]) aN ?_
  refine go_brk rfl rfl rfl ?_
  refine g0 pcs_ok 5 [] (.go [cN 255]) ⟨[(2,.bool true)],[],1⟩ ([]) aN ?_
  refine go_ret rfl ?_
  refine rf ⟨[(2,.bool true)],[],0⟩ [.bool true] (cvR hE []) ?_
  first | exact rfl | (exfalso; omega)
end Go.SL
