import Derived.Test.YtgbcmddacencjaaDoorEc
import Derived.Test.YtgbcmddacencjaaDoorFw
set_option linter.unusedSimpArgs false
set_option linter.unusedVariables false
namespace Go.SL
section
variable {ops E Pa:Nat→Int} {lo hi:Nat} {c:Int}
def Nst (E Pa:Nat→Int) (lo hi:Nat) (c:Int) (k:Nat):Prop:=(Pa k = c∧E k < hi)∨∃ y:Nat,Pa k = y∧lo≤y∧y < k∧(k:Int) < E y∧E k < E y
theorem Nst.up {lo m k b hi:Nat} {c:Int} (h:Nst E Pa (m + 1) b m k) (h0:lo≤m) (h1:m < k) (h2:E m = b) (h3:k < b):Nst E Pa lo hi c k:=by
 rcases h with ⟨a1,a2⟩ | ⟨y,a1,a2,a3,a4,a5⟩
 ·exact .inr ⟨m,a1,h0,h1,by omega,by omega⟩
 ·exact .inr ⟨y,a1,by omega,a3,a4,a5⟩
theorem Nst.grow {lo b hi k:Nat} {c:Int} (h:Nst E Pa lo b c k) (hb:b≤hi):Nst E Pa lo hi c k:=by
 rcases h with ⟨a1,a2⟩ | h
 ·exact .inl ⟨a1,by omega⟩
 ·exact .inr h
theorem Blo.nest (h:Blo ops E Pa lo hi c):∀ k:Nat,lo≤k→k < hi→Nst E Pa lo hi c k:=by
 induction h with
 | nil=>intro k h1 h2; omega
 | one lo m c h0 ho hE hP ih =>
  intro x h1 h2
  rcases (by omega:x < m∨x = m) with h | rfl
  ·exact (ih x h1 h).grow (by omega)
  ·exact .inl ⟨hP,by omega⟩
 | b1 lo m k c h0 ho hP hE h3 hk hEk hPk ih1 ih2 =>
  intro x h1 h2
  have l1:=h0.le
  have l2:=h3.le
  rcases (by omega:x < m∨x = m∨(m + 1≤x∧x < k)∨x = k) with h | rfl | h | rfl
  ·exact (ih1 x h1 h).grow (by omega)
  ·exact .inl ⟨hP,by omega⟩
  ·exact (ih2 x h.1 h.2).up l1 (by omega) hE h.2
  ·exact .inl ⟨hPk,by omega⟩
 | b2 lo m k j c h0 ho hP hE h3 hPk hEk h4 hj hEj hPj ih1 ih2 ih3 =>
  intro x h1 h2
  have l1:=h0.le
  have l2:=h3.le
  have l3:=h4.le
  rcases (by omega:x < m∨x = m∨(m + 1≤x∧x < k)∨x = k∨(k + 1≤x∧x < j)∨x = j) with h | rfl | h | rfl | h | rfl
  ·exact (ih1 x h1 h).grow (by omega)
  ·exact .inl ⟨hP,by omega⟩
  ·exact (ih2 x h.1 h.2).up l1 (by omega) hE h.2
  ·exact .inl ⟨hPk,by omega⟩
  ·exact (ih3 x h.1 h.2).up (by omega) (by omega) hEk h.2
  ·exact .inl ⟨hPj,by omega⟩
 | b3 lo m k j i c h0 ho hP hE h3 hPk hEk h4 hPj hEj h5 hi hEi hPi ih1 ih2 ih3 ih4 =>
  intro x h1 h2
  have l1:=h0.le
  have l2:=h3.le
  have l3:=h4.le
  have l4:=h5.le
  rcases (by omega:x < m∨x = m∨(m + 1≤x∧x < k)∨x = k∨(k + 1≤x∧x < j)∨x = j∨(j + 1≤x∧x < i)∨x = i) with h | rfl | h | rfl | h | rfl | h | rfl
  ·exact (ih1 x h1 h).grow (by omega)
  ·exact .inl ⟨hP,by omega⟩
  ·exact (ih2 x h.1 h.2).up l1 (by omega) hE h.2
  ·exact .inl ⟨hPk,by omega⟩
  ·exact (ih3 x h.1 h.2).up (by omega) (by omega) hEk h.2
  ·exact .inl ⟨hPj,by omega⟩
  ·exact (ih4 x h.1 h.2).up (by omega) (by omega) hEj h.2
  ·exact .inl ⟨hPi,by omega⟩
theorem Blo.tryNext (h:Blo ops E Pa lo hi c):∀ k:Nat,lo≤k→k < hi→ops k = 39→∃ y:Nat,E k = y∧(ops y = 40∨ops y = 41):=by
 induction h with
 | nil=>intro k h1 h2; omega
 | one lo m c h0 ho hE hP ih =>
  intro x h1 h2 h3
  rcases (by omega:x < m∨x = m) with h | rfl
  ·exact ih x h1 h h3
  ·omega
 | b1 lo m k c h0 ho hP hE h3 hk hEk hPk ih1 ih2 =>
  intro x h1 h2 h9
  rcases (by omega:x < m∨x = m∨(m + 1≤x∧x < k)∨x = k) with h | rfl | h | rfl
  ·exact ih1 x h1 h h9
  ·omega
  ·exact ih2 x h.1 h.2 h9
  ·omega
 | b2 lo m k j c h0 ho hP hE h3 hPk hEk h4 hj hEj hPj ih1 ih2 ih3 =>
  intro x h1 h2 h9
  rcases (by omega:x < m∨x = m∨(m + 1≤x∧x < k)∨x = k∨(k + 1≤x∧x < j)∨x = j) with h | rfl | h | rfl | h | rfl
  ·exact ih1 x h1 h h9
  ·exact ⟨k,hE,by omega⟩
  ·exact ih2 x h.1 h.2 h9
  ·omega
  ·exact ih3 x h.1 h.2 h9
  ·omega
 | b3 lo m k j i c h0 ho hP hE h3 hPk hEk h4 hPj hEj h5 hi hEi hPi ih1 ih2 ih3 ih4 =>
  intro x h1 h2 h9
  rcases (by omega:x < m∨x = m∨(m + 1≤x∧x < k)∨x = k∨(k + 1≤x∧x < j)∨x = j∨(j + 1≤x∧x < i)∨x = i) with h | rfl | h | rfl | h | rfl | h | rfl
  ·exact ih1 x h1 h h9
  ·exact ⟨k,hE,by omega⟩
  ·exact ih2 x h.1 h.2 h9
  ·omega
  ·exact ih3 x h.1 h.2 h9
  ·omega
  ·exact ih4 x h.1 h.2 h9
  ·omega
end
theorem climb_enc {Q D:Arr Int} {n:Nat} {hit:Int→Bool} (hN:∀ k:Nat,k < n→Nst D.f Q.f 0 n (-1) k):∀ (m k:Nat) (c:Int),k < n→climb Q hit m k = some c→0≤c∧c < k∧(k:Int) < D.f c.toNat∧D.f k < D.f c.toNat∧hit c = true
 | 0,k,c,hk,h=>by simp [climb] at h
 | m + 1,k,c,hk,h=>by
  simp only [climb,Int.toNat_natCast] at h
  split at h
  ·simp at h
  ·rename_i hq
   rcases hN k hk with ⟨a1,_⟩ | ⟨y,a1,a2,a3,a4,a5⟩
   ·omega
   ·rw [a1] at h
    split at h
    ·rename_i hh
     simp only [Option.some.injEq] at h
     subst h
     rw [Int.toNat_natCast]
     exact ⟨by omega,by omega,a4,a5,hh⟩
    ·obtain ⟨b1,b2,b3,b4,b5⟩:=climb_enc hN m y c (by omega) h
     exact ⟨b1,by omega,by omega,by omega,b5⟩
theorem climb_some {Q:Arr Int} {h1 h2:Int→Bool} (hh:∀ c,h1 c = true→h2 c = true):∀ (m:Nat) (k c:Int),climb Q h1 m k = some c→∃ c',climb Q h2 m k = some c'
 | 0,k,c,h=>by simp [climb] at h
 | m + 1,k,c,h=>by
  simp only [climb] at h ⊢
  split at h
  ·simp at h
  ·rename_i hq
   rw [if_neg hq]
   split at h
   ·rename_i hx
    rw [if_pos (hh _ hx)]; exact ⟨_,rfl⟩
   ·split
    ·exact ⟨_,rfl⟩
    ·exact climb_some hh m _ c h
end Go.SL
namespace Go.SL
theorem made_lineS {p:Pg} (h:MadeOK p) {f:Nat} (hf:f < p.funcs.n) {j:Nat} (hj:j < (p.funcs.f f).lines.n):LineS ((p.funcs.f f).lines.f j):=by
 have h4:=(made_ok h).2
 obtain ⟨q,L0,L1,L2,L3,rfl,b0,b1,b2,b3,_⟩:=h.ex
 have key:∀ f,f < 4→∀ j,j < ((madeP q L0 L1 L2 L3).funcs.f f).lines.n→LineS (((madeP q L0 L1 L2 L3).funcs.f f).lines.f j) :=
  four (P:=fun f=>∀ j,j < ((madeP q L0 L1 L2 L3).funcs.f f).lines.n→LineS (((madeP q L0 L1 L2 L3).funcs.f f).lines.f j)) (fun j hj=>bal_lines b0 _ (getD_mem hj)) (fun j hj=>bal_lines b1 _ (getD_mem hj)) (fun j hj=>bal_lines b2 _ (getD_mem hj)) (fun j hj=>bal_lines b3 _ (getD_mem hj))
 exact key f (by omega) j hj
theorem line40 {x:Ln} (h:LineS x) (ho:x.op = 40):x.a ∈ vars5:=by
 cases h with
 | cat a ha=>exact ha
 | simp _ h =>
  exfalso
  cases h with
  | two op a b hm=>simp at hm; have ho:op = 40:=ho; omega
  | three op a b c hm=>have ho:op = 40:=ho; omega
  | fld op a b n hm=>simp at hm; have ho:op = 40:=ho; omega
  | one op a hm=>simp at hm; have ho:op = 40:=ho; omega
  | const a v ha hv=>have ho:(1:Int) = 40:=ho; omega
  | new a n=>have ho:(15:Int) = 40:=ho; omega
  | call a b c=>have ho:(22:Int) = 40:=ho; omega
  | bind a b c k=>have ho:(23:Int) = 40:=ho; omega
  | apply a b c k=>have ho:(24:Int) = 40:=ho; omega
  | send a b c k=>have ho:(25:Int) = 40:=ho; omega
  | final a=>have ho:(28:Int) = 40:=ho; omega
  | yield=>have ho:(33:Int) = 40:=ho; omega
  | spawn a n=>have ho:(32:Int) = 40:=ho; omega
 | iff a ha=>have ho:(36:Int) = 40:=ho; omega
 | els=>have ho:(37:Int) = 40:=ho; omega
 | whl a ha=>have ho:(38:Int) = 40:=ho; omega
 | tr=>have ho:(39:Int) = 40:=ho; omega
 | fin=>have ho:(41:Int) = 40:=ho; omega
 | en=>have ho:(42:Int) = 40:=ho; omega
theorem vars5_ne {a:ByteArray} (h:a ∈ vars5):¬ a = eB:=fun e=>by
 subst e
 have:=vars5_name h
 exact absurd this (by decide +kernel)
theorem slotI_mem {l:List ByteArray} {s:ByteArray} (h:s ∈ l):0≤slotI (ofL eB l) s∧slotI (ofL eB l) s < (ofL eB l).n:=by
 obtain ⟨j,hj,e⟩:=List.getElem_of_mem h
 rcases idxI_cases (ofL eB l).n (fun j=>decide (s = (ofL eB l).f j)) with ⟨k,h1,_,_,e2⟩ | ⟨h1,_⟩
 ·rw [slotI,e2]; omega
 ·exfalso
  have:=of_decide_eq_false (h1 j hj)
  apply this
  show s = l.getD j eB
  rw [← e]; simp [List.getD,List.getElem?_eq_getElem hj]
theorem opF_at {L:Arr Ln} {k:Nat} (h:k < L.n):opF L (k:Int) = (L.f k).op:=by
 rw [opF,if_neg (by omega),if_neg (by omega),Int.toNat_natCast]
section
variable {p:Pg} {f k:Nat}
theorem FnI.sp (h:FnI p f) (hf:f < p.funcs.n) (hk:k < (p.funcs.f f).lines.n):spB p (infOf p) (f:Int) (k:Int) = true:=by
 obtain ⟨i1,i2,i3⟩:=@inf_n p
 have he:=h.e
 have hq:=h.q
 rw [spB,inB,okB,Int.toNat_natCast,decide_eq_true (by omega),decide_eq_true (by omega)]; rfl
theorem FnI.next (h:FnI p f) (hf:f < p.funcs.n) (hk:k < (p.funcs.f f).lines.n):nextF p (infOf p) (f:Int) (k:Int)≤(p.funcs.f f).lines.n∧(nextF p (infOf p) (f:Int) (k:Int) < 0 ↔ ((p.funcs.f f).lines.f k).op = 34∨((p.funcs.f f).lines.f k).op = 35):=by
 have hl:=h.line k hk
 rw [nextF,if_pos (h.sp hf hk)]
 simp only [Int.toNat_natCast,opF_at hk]
 repeat' split
 all_goals omega
theorem FnI.skip (h:FnI p f) (hf:f < p.funcs.n) (hk:k < (p.funcs.f f).lines.n):skipF p (infOf p) (f:Int) (k:Int)≤(p.funcs.f f).lines.n∧(skipF p (infOf p) (f:Int) (k:Int) > k ↔ ((p.funcs.f f).lines.f k).op = 36∨((p.funcs.f f).lines.f k).op = 38):=by
 have hl:=h.line k hk
 rw [skipF]
 simp only [Int.toNat_natCast,opF_at hk,h.sp hf hk,true_and]
 repeat' split
 all_goals omega
theorem FnI.nest (h:FnI p f):∀ k:Nat,k < (p.funcs.f f).lines.n→Nst ((infOf p).ends.f f).f ((infOf p).parent.f f).f 0 (p.funcs.f f).lines.n (-1) k:=fun k hk=>h.blo.nest k (by omega) hk
theorem FnI.tgt (h:FnI p f) {e:Int} (ho:opF (p.funcs.f f).lines e = 40∨opF (p.funcs.f f).lines e = 41):0≤e∧e + 1 < (p.funcs.f f).lines.n∧e < ((infOf p).ends.f f).f e.toNat∧((p.funcs.f f).lines.f e.toNat).op = opF (p.funcs.f f).lines e:=by
 obtain ⟨h1,h2⟩:=opF_in (L:=(p.funcs.f f).lines) (k:=e) (by omega)
 have e1:((e.toNat:Nat):Int) = e:=by omega
 have hl:=h.line e.toNat (by omega)
 have ho2:=opF_at (L:=(p.funcs.f f).lines) (k:=e.toNat) (by omega)
 rw [e1] at ho2
 rw [ho2] at ho
 exact ⟨h1,by omega,by omega,ho2.symm⟩
theorem FnI.hitC (h:FnI p f) {c:Int} (h0:0≤c) (hc:c < (p.funcs.f f).lines.n) (hh:catH (p.funcs.f f).lines ((infOf p).ends.f f) c = true):opF (p.funcs.f f).lines (((infOf p).ends.f f).f c.toNat) = 40∧catA (p.funcs.f f).lines ((infOf p).ends.f f) c = true∨opF (p.funcs.f f).lines (((infOf p).ends.f f).f c.toNat) = 41∧catA (p.funcs.f f).lines ((infOf p).ends.f f) c = false:=by
 have e1:((c.toNat:Nat):Int) = c:=by omega
 have ho:=opF_at (L:=(p.funcs.f f).lines) (k:=c.toNat) (by omega)
 rw [e1] at ho
 rw [catH,Bool.or_eq_true] at hh
 by_cases hA:opF (p.funcs.f f).lines c = 39∧opF (p.funcs.f f).lines (((infOf p).ends.f f).f c.toNat) = 40
 ·exact .inl ⟨hA.2,decide_eq_true hA⟩
 ·refine .inr ⟨?_,decide_eq_false hA⟩
  rcases hh with hh | hh
  ·exact absurd (of_decide_eq_true hh) hA
  ·have hh:=of_decide_eq_true hh
   by_cases h39:opF (p.funcs.f f).lines c = 39
   ·obtain ⟨y,hy,h2⟩:=h.blo.tryNext c.toNat (by omega) (by omega) (by rw [← ho]; exact h39)
    have hy:((infOf p).ends.f f).f c.toNat = y:=hy
    have hl:=h.line c.toNat (by omega)
    have hy2:y < (p.funcs.f f).lines.n:=by omega
    rw [hy,opF_at hy2] at hA ⊢
    have h2:((p.funcs.f f).lines.f y).op = 40∨((p.funcs.f f).lines.f y).op = 41:=h2
    omega
   ·omega
theorem FnI.catch (hp:MadeOK p) (h:FnI p f) (hf:f < p.funcs.n) (hk:k < (p.funcs.f f).lines.n) (hok:(catF p (infOf p) (f:Int) (k:Int)).ok = true) :
  (k:Int) + 1 < (catF p (infOf p) (f:Int) (k:Int)).t∧(catF p (infOf p) (f:Int) (k:Int)).t < (p.funcs.f f).lines.n∧(catF p (infOf p) (f:Int) (k:Int)).s < ((infOf p).slots.f f).n ∧
  (((catF p (infOf p) (f:Int) (k:Int)).fi = true∧(catF p (infOf p) (f:Int) (k:Int)).s = -1∧((p.funcs.f f).lines.f ((catF p (infOf p) (f:Int) (k:Int)).t - 1).toNat).op = 41) ∨
  ((catF p (infOf p) (f:Int) (k:Int)).fi = false∧0≤(catF p (infOf p) (f:Int) (k:Int)).s∧((p.funcs.f f).lines.f ((catF p (infOf p) (f:Int) (k:Int)).t - 1).toNat).op = 40)):=by
 rw [catF,if_pos (h.sp hf hk)] at hok ⊢
 simp only [Int.toNat_natCast] at hok ⊢
 rw [catS] at hok ⊢
 cases hU:upF ((infOf p).parent.f f) (catH (p.funcs.f f).lines ((infOf p).ends.f f)) (k:Int) with
 | none=>rw [hU] at hok; exact absurd hok (by simp)
 | some c =>
  obtain ⟨c0,c1,c2,_,c3⟩:=climb_enc h.nest _ k c hk hU
  dsimp only
  rcases h.hitC c0 (by omega) c3 with ⟨a1,a2⟩ | ⟨a1,a2⟩
  ·rw [if_pos a2]
   obtain ⟨t1,t2,t3,t4⟩:=h.tgt (.inl a1)
   rw [a1] at t4
   have hs:0≤slotF (infOf p) (f:Int) ((p.funcs.f f).lines.f (((infOf p).ends.f f).f c.toNat).toNat).a∧slotF (infOf p) (f:Int) ((p.funcs.f f).lines.f (((infOf p).ends.f f).f c.toNat).toNat).a < ((infOf p).slots.f f).n:=by
    obtain ⟨i1,i2,i3⟩:=@inf_n p
    rw [slotF,if_neg (by omega),if_neg (by omega),Int.toNat_natCast,h.sl]
    have hx:=made_lineS hp hf (j:=(((infOf p).ends.f f).f c.toNat).toNat) (by omega)
    have ha:=line40 hx t4
    refine slotI_mem (slots_mem.2 (.inr ⟨_,List.mem_map.2 ⟨(((infOf p).ends.f f).f c.toNat).toNat,List.mem_range.2 (by omega),rfl⟩,?_⟩))
    simp [varsL,vars5_ne ha]
   refine ⟨by dsimp only; omega,by dsimp only; omega,hs.2,.inr ⟨rfl,hs.1,?_⟩⟩
   rw [show ((infOf p).ends.f f).f c.toNat + 1 - 1 = ((infOf p).ends.f f).f c.toNat by omega]; exact t4
  ·rw [if_neg (by rw [a2]; simp)]
   obtain ⟨t1,t2,t3,t4⟩:=h.tgt (.inr a1)
   rw [a1] at t4
   refine ⟨by dsimp only; omega,by dsimp only; omega,by dsimp only; omega,.inl ⟨rfl,rfl,?_⟩⟩
   rw [show ((infOf p).ends.f f).f c.toNat + 1 - 1 = ((infOf p).ends.f f).f c.toNat by omega]; exact t4
theorem FnI.fin (h:FnI p f) (hf:f < p.funcs.n) (hk:k < (p.funcs.f f).lines.n) (hok:(finF p (infOf p) (f:Int) (k:Int)).2 = true) :
  (k:Int) + 1 < (finF p (infOf p) (f:Int) (k:Int)).1∧(finF p (infOf p) (f:Int) (k:Int)).1 < (p.funcs.f f).lines.n∧((p.funcs.f f).lines.f ((finF p (infOf p) (f:Int) (k:Int)).1 - 1).toNat).op = 41∧(catF p (infOf p) (f:Int) (k:Int)).ok = true:=by
 rw [finF,if_pos (h.sp hf hk)] at hok ⊢
 rw [catF,if_pos (h.sp hf hk)]
 simp only [Int.toNat_natCast] at hok ⊢
 rw [finS] at hok ⊢
 rw [catS]
 cases hU:upF ((infOf p).parent.f f) (finH (p.funcs.f f).lines ((infOf p).ends.f f)) (k:Int) with
 | none=>rw [hU] at hok; exact absurd hok (by simp)
 | some c =>
  obtain ⟨c0,c1,c2,_,c3⟩:=climb_enc h.nest _ k c hk hU
  have c4:=of_decide_eq_true c3
  dsimp only
  obtain ⟨t1,t2,t3,t4⟩:=h.tgt (.inr c4.2)
  rw [c4.2] at t4
  have hle:((infOf p).ends.f f).f c.toNat≤finE (p.funcs.f f).lines ((infOf p).ends.f f) c:=by
   rw [finE]
   split
   ·rename_i h2
    have:=h.tgt (.inl h2.2)
    omega
   ·exact Int.le_refl _
  refine ⟨by omega,by omega,?_,?_⟩
  ·rw [show finE (p.funcs.f f).lines ((infOf p).ends.f f) c + 1 - 1 = finE (p.funcs.f f).lines ((infOf p).ends.f f) c by omega]; exact t4
  ·obtain ⟨c',hc'⟩:=climb_some (Q:=(infOf p).parent.f f) (h1:=finH (p.funcs.f f).lines ((infOf p).ends.f f)) (h2:=catH (p.funcs.f f).lines ((infOf p).ends.f f)) (fun c hc=>by
    have hc:=of_decide_eq_true hc
    rw [catH,Bool.or_eq_true]
    by_cases h39:opF (p.funcs.f f).lines c = 39
    ·exact .inr (decide_eq_true (.inl h39))
    ·rw [finE,if_neg (fun x=>h39 x.1)] at hc
     exact .inr (decide_eq_true (.inr ⟨hc.1.resolve_left h39,hc.2⟩))) _ _ _ hU
   have hc':upF ((infOf p).parent.f f) (catH (p.funcs.f f).lines ((infOf p).ends.f f)) (k:Int) = some c':=hc'
   rw [hc']
   dsimp only
   split <;> rfl
end
end Go.SL
