import Derived.Test.YtgbcmddacencjaaDoorGam
set_option linter.unusedSimpArgs false
set_option linter.unusedVariables false
namespace Go.SL
structure FnI (p:Pg) (f:Nat):Prop where
 e:((infOf p).ends.f f).n = (p.funcs.f f).lines.n
 q:((infOf p).parent.f f).n = (p.funcs.f f).lines.n
 blo:Blo (fun i=>((p.funcs.f f).lines.f i).op) ((infOf p).ends.f f).f ((infOf p).parent.f f).f 0 (p.funcs.f f).lines.n (-1)
 small:(p.funcs.f f).lines.n≤60
 sl:(infOf p).slots.f f = ofL eB (slotsF (arrL (p.funcs.f f).params) (arrL (p.funcs.f f).lines))
theorem made_fn {p:Pg} (h:MadeOK p) {f:Nat} (hf:f < p.funcs.n):FnI p f:=by
 obtain ⟨h1,h2,h3,h4,h5⟩:=(made_ok h).1.fb f hf
 refine ⟨?_,?_,?_,h4,?_⟩
 ·rw [inf_ends hf]; exact h1
 ·rw [inf_par hf]; exact h2
 ·rw [inf_ends hf,inf_par hf]; exact h3
 ·rw [inf_slots hf]; exact h5
theorem FnI.line {p:Pg} {f:Nat} (h:FnI p f) (k:Nat) (hk:k < (p.funcs.f f).lines.n) :
  ((infOf p).parent.f f).f k < k∧-1≤((infOf p).parent.f f).f k∧((infOf p).ends.f f).f k < (p.funcs.f f).lines.n ∧
  (36≤((p.funcs.f f).lines.f k).op∧((p.funcs.f f).lines.f k).op≤42→0≤((infOf p).ends.f f).f k) ∧
  (((p.funcs.f f).lines.f k).op < 36∨42 < ((p.funcs.f f).lines.f k).op→((infOf p).ends.f f).f k = -1) ∧
  (36≤((p.funcs.f f).lines.f k).op∧((p.funcs.f f).lines.f k).op≤41→(k:Int) < ((infOf p).ends.f f).f k):=h.blo.f1 (by omega) k (by omega) hk
def depF (ops:Nat→Int):Nat→Int
 | 0=>0
 | k + 1=>depF ops k + dstep (ops k)
abbrev depP (p:Pg) (f k:Nat):Int:=depF (fun i=>((p.funcs.f f).lines.f i).op) k
theorem FnI.deep {p:Pg} {f:Nat} (h:FnI p f):depP p f (p.funcs.f f).lines.n = 0∧∀ k:Nat,k≤(p.funcs.f f).lines.n→0≤depP p f k:=by
 obtain ⟨h1,h2⟩:=h.blo.deep (D:=depF fun i=>((p.funcs.f f).lines.f i).op) (fun k=>rfl)
 exact ⟨h1,fun k hk=>h2 k (by omega) hk⟩
def wantF (ops E:Nat→Int) (k:Nat):Nat→Int
 | 0=>-1
 | c + 1=>if ops c ≠ 42∧(k:Int) < E c then c else wantF ops E k c
theorem want_succ {ops E:Nat→Int} {k c:Nat}:wantF ops E k (c + 1) = if ops c ≠ 42∧(k:Int) < E c then (c:Int) else wantF ops E k c:=rfl
theorem want_last {ops E:Nat→Int} {k:Nat} {q:Int} (h:Last ops E 0 k (-1) q):wantF ops E k k = q:=by
 rcases h with ⟨x,h1,h2,h3,h4,rfl,h6⟩ | ⟨rfl,h6⟩
 ·have key:∀ m:Nat,x + 1 + m≤k→wantF ops E k (x + 1 + m) = x:=by
   intro m
   induction m with
   | zero=>intro _; rw [Nat.add_zero,want_succ,if_pos ⟨h3,h4⟩]
   | succ m ih =>
    intro hm
    rw [show x + 1 + (m + 1) = (x + 1 + m) + 1 from rfl,want_succ,if_neg (h6 (x + 1 + m) (by omega) (by omega))]
    exact ih (by omega)
  have:=key (k - (x + 1)) (by omega)
  rwa [show x + 1 + (k - (x + 1)) = k by omega] at this
 ·have key:∀ m:Nat,m≤k→wantF ops E k m = -1:=by
   intro m
   induction m with
   | zero=>intro _; rfl
   | succ m ih =>
    intro hm
    rw [want_succ,if_neg (h6 m (by omega) (by omega))]
    exact ih (by omega)
  exact key k (Nat.le_refl _)
abbrev wantP (p:Pg) (f k c:Nat):Int:=wantF (fun i=>((p.funcs.f f).lines.f i).op) ((infOf p).ends.f f).f k c
theorem FnI.want {p:Pg} {f:Nat} (h:FnI p f) (k:Nat) (hk:k < (p.funcs.f f).lines.n):wantP p f k k = ((infOf p).parent.f f).f k:=want_last (h.blo.last (by omega) k (by omega) hk)
theorem want_yes {p:Pg} {f k c:Nat} (h:¬ ((p.funcs.f f).lines.f c).op = 42) (h2:((infOf p).ends.f f).f c > (k:Int)):wantP p f k (c + 1) = c:=by
 rw [wantP,want_succ,if_pos ⟨h,h2⟩]
theorem want_no {p:Pg} {f k c:Nat} (h:((p.funcs.f f).lines.f c).op = 42∨¬ ((infOf p).ends.f f).f c > (k:Int)):wantP p f k (c + 1) = wantP p f k c:=by
 rw [wantP,want_succ,if_neg]
 rintro ⟨a,b⟩
 rcases h with h | h
 ·exact a h
 ·exact h b
end Go.SL
