import Derived.Test.YtgbcmddacencjaaDoorTab
import Derived.Test.YtgbcmddacencjaaDoorDam
import Derived.Test.YtgbcmddacencjaaDoorVfm
set_option linter.unusedSimpArgs false
set_option linter.unusedVariables false
namespace Go.SL
open Go.Proofs
section
variable {E:Env} {N:Nat} {body:Code} {K:Ex→St→Prop}
theorem gs {pc:PC} (hpc:PCOK Tryd.prog pc) (n:Nat) (ov:OV) (ts hs:List Nat) {ps:Pos} {s:S} (ps':Pos) (s':S) (b:List Cnd) (hb:AllT b) (hk:GO Tryd.prog E N body ps' s' K) (hbare:bareP ps = true:=by rfl) (h:segK tab true pc N body n ov ts hs ps s = some (ps',s',b):=by kernel_rfl):GO Tryd.prog E N body ps s K:=go_seg true n ov ts hs ps' s' b tab_ok hpc mix hbare h hb hk
theorem gsF {pc:PC} (hpc:PCOK Tryd.prog pc) (n:Nat) (ov:OV) (ts hs:List Nat) {ps:Pos} {s:S} (ps':Pos) (s':S) (b:List Cnd) (hb:AllT b) (hk:GO Tryd.prog E N body ps' s' K) (hbare:bareP ps = true:=by rfl) (h:segK tab false pc N body n ov ts hs ps s = some (ps',s',b):=by kernel_rfl):GO Tryd.prog E N body ps s K:=go_seg false n ov ts hs ps' s' b tab_ok hpc mix hbare h hb hk
theorem g0 {pc:PC} (hpc:PCOK Tryd.prog pc) (n:Nat) (ov:OV) {ps:Pos} {s:S} (ps':Pos) (s':S) (b:List Cnd) (hb:AllT b) (hk:GO Tryd.prog E N body ps' s' K) (hbare:bareP ps = true:=by rfl) (h:segK tab true pc N body n ov (s'.fr.map (·.1)) (s'.hp.map (·.1)) ps s = some (ps',s',b):=by kernel_rfl):GO Tryd.prog E N body ps s K:=gs hpc n ov _ _ ps' s' b hb hk hbare h
theorem g1 {pc:PC} (hpc:PCOK Tryd.prog pc) (n:Nat) (ov:OV) {ps:Pos} {s:S} (ps':Pos) (s':S) (b:List Cnd) (hb:AllT b) (hk:GO Tryd.prog E N body ps' s' K) (hbare:bareP ps = true:=by rfl) (h:segK tab false pc N body n ov (s'.fr.map (·.1)) (s'.hp.map (·.1)) ps s = some (ps',s',b):=by kernel_rfl):GO Tryd.prog E N body ps s K:=gsF hpc n ov _ _ ps' s' b hb hk hbare h
theorem rf {n:Nat} {rs:List ResultVar} {Q:Ret→List (Nat × Blk)→Nat→Prop} {s:S} (s':S) (l:List AV) (hs:Cv Tryd.prog E N s s') (hQ:Q (.ret (oneOf l)) s'.hp s'.nx) (hn:Nat.ble n s'.nx = true:=by kernel_rfl) (hr:resT tab s' rs = some l:=by kernel_rfl):RT Tryd.prog E N s (FQ Tryd.prog n rs Q):=rt_fin s' l tab_ok hs hn hr hQ
theorem gf {n:Nat} {rs:List ResultVar} {Q:Ret→List (Nat × Blk)→Nat→Prop} {s:S} (s':S) (l:List AV) (hs:Cv Tryd.prog E N s s') (hQ:Q (.ret (oneOf l)) s'.hp s'.nx) (hn:Nat.ble n s'.nx = true:=by kernel_rfl) (hr:resT tab s' rs = some l:=by kernel_rfl):GO Tryd.prog E N body (.go []) s (FQ Tryd.prog n rs Q):=go_fin s' l tab_ok hs hn hr hQ
theorem rfC {n:Nat} {rs:List ResultVar} {Q:Ret→List (Nat × Blk)→Nat→Prop} {s:S} (s':S) (hp':List (Nat × Blk)) (l:List AV) (hs:Cv Tryd.prog E N s s') (hQ:Q (.ret (oneOf l)) hp' s'.nx) (hn:Nat.ble n s'.nx = true:=by kernel_rfl) (hr:resT tab s' rs = some l:=by kernel_rfl) (hsub:hp'.map (fun p=>lkh s'.hp p.1) = hp'.map (fun p=>some p.2):=by kernel_rfl):RT Tryd.prog E N s (FQ Tryd.prog n rs Q):=rt_finC s' hp' l tab_ok hs hn hr hsub hQ
end
def alnumB (c:Int):Bool:=decide (97≤c∧c≤122) || decide (65≤c∧c≤90) || decide (48≤c∧c≤57)
theorem alnum_ctr (c:Int) :Ctr Tryd.prog 51 [.int .u8 c] [] 0 (fun r _ _=>r = .ret (.bool (alnumB c))):=by
 refine ctr_body Tryd.func51 rfl (by kernel_rfl) Tryd.ntmps51 rfl rfl fun E hE=>?_
 refine g0 pcs_ok 9 [] (.op 6 3 [cN 7]) ⟨[(0,.int .u8 c),(5,.bool (decide (c ≥ 97)))],[],0⟩ ([]) aN ?_
 by_cases h1:c ≥ 97
 ·refine gb 5 true (decide (c ≥ 97)) (decide_eq_true h1) ?_
  refine g0 pcs_ok 5 [] (.op 6 7 [cN 7]) ⟨[(0,.int .u8 c),(9,.bool (decide (c≤122)))],[],0⟩ ([]) aN ?_
  by_cases h2:c≤122
  ·refine gb 9 true (decide (c≤122)) (decide_eq_true h2) ?_
   refine g0 pcs_ok 18 [] (.go [cN 7]) ⟨[(2,.bool true)],[],0⟩ ([]) aN ?_
   refine go_ret rfl ?_
   refine rf ⟨[(2,.bool true)],[],0⟩ [.bool true] (cvR hE []) ?_
   refine congrArg (fun x=>Ret.ret (AV.bool x)) ?_
   rw [Bool.eq_iff_iff]
   simp only [alnumB,Bool.or_eq_true,Bool.and_eq_true,decide_eq_true_eq,Bool.false_eq_true,true_iff,false_iff]
   omega
  ·refine gb 9 false (decide (c≤122)) (decide_eq_false h2) ?_
   refine g0 pcs_ok 4 [] (.op 6 10 [cN 7]) ⟨[(0,.int .u8 c),(9,.bool false),(12,.bool (decide (c ≥ 65)))],[],0⟩ ([]) aN ?_
   by_cases h3:c ≥ 65
   ·refine gb 12 true (decide (c ≥ 65)) (decide_eq_true h3) ?_
    refine g0 pcs_ok 6 [] (.op 6 15 [cN 7]) ⟨[(0,.int .u8 c),(17,.bool (decide (c≤90)))],[],0⟩ ([]) aN ?_
    by_cases h4:c≤90
    ·refine gb 17 true (decide (c≤90)) (decide_eq_true h4) ?_
     refine g0 pcs_ok 10 [] (.go [cN 7]) ⟨[(2,.bool true)],[],0⟩ ([]) aN ?_
     refine go_ret rfl ?_
     refine rf ⟨[(2,.bool true)],[],0⟩ [.bool true] (cvR hE []) ?_
     refine congrArg (fun x=>Ret.ret (AV.bool x)) ?_
     rw [Bool.eq_iff_iff]
     simp only [alnumB,Bool.or_eq_true,Bool.and_eq_true,decide_eq_true_eq,Bool.false_eq_true,true_iff,false_iff]
     omega
    ·refine gb 17 false (decide (c≤90)) (decide_eq_false h4) ?_
     refine g0 pcs_ok 4 [] (.op 6 18 [cN 7]) ⟨[(0,.int .u8 c),(17,.bool false),(20,.bool (decide (c ≥ 48)))],[],0⟩ ([]) aN ?_
     by_cases h5:c ≥ 48
     ·refine gb 20 true (decide (c ≥ 48)) (decide_eq_true h5) ?_
      refine g0 pcs_ok 7 [] (.go [cN 7]) ⟨[(2,.bool (decide (c≤57)))],[],0⟩ ([]) aN ?_
      refine go_ret rfl ?_
      refine rf ⟨[(2,.bool (decide (c≤57)))],[],0⟩ [.bool (decide (c≤57))] (cvR hE []) ?_
      refine congrArg (fun x=>Ret.ret (AV.bool x)) ?_
      rw [Bool.eq_iff_iff]
      simp only [alnumB,Bool.or_eq_true,Bool.and_eq_true,decide_eq_true_eq,Bool.false_eq_true,true_iff,false_iff]
      omega
     ·refine gb 20 false (decide (c ≥ 48)) (decide_eq_false h5) ?_
      refine g0 pcs_ok 7 [] (.go [cN 7]) ⟨[(2,.bool false)],[],0⟩ ([]) aN ?_
      refine go_ret rfl ?_
      refine rf ⟨[(2,.bool false)],[],0⟩ [.bool false] (cvR hE []) ?_
      refine congrArg (fun x=>Ret.ret (AV.bool x)) ?_
      rw [Bool.eq_iff_iff]
      simp only [alnumB,Bool.or_eq_true,Bool.and_eq_true,decide_eq_true_eq,Bool.false_eq_true,true_iff,false_iff]
      omega
   ·refine gb 12 false (decide (c ≥ 65)) (decide_eq_false h3) ?_
    refine g0 pcs_ok 9 [] (.op 6 18 [cN 7]) ⟨[(0,.int .u8 c),(17,.bool false),(20,.bool (decide (c ≥ 48)))],[],0⟩ ([]) aN ?_
    by_cases h6:c ≥ 48
    ·refine gb 20 true (decide (c ≥ 48)) (decide_eq_true h6) ?_
     refine g0 pcs_ok 7 [] (.go [cN 7]) ⟨[(2,.bool (decide (c≤57)))],[],0⟩ ([]) aN ?_
     refine go_ret rfl ?_
     refine rf ⟨[(2,.bool (decide (c≤57)))],[],0⟩ [.bool (decide (c≤57))] (cvR hE []) ?_
     refine congrArg (fun x=>Ret.ret (AV.bool x)) ?_
     rw [Bool.eq_iff_iff]
     simp only [alnumB,Bool.or_eq_true,Bool.and_eq_true,decide_eq_true_eq,Bool.false_eq_true,true_iff,false_iff]
     omega
    ·refine gb 20 false (decide (c ≥ 48)) (decide_eq_false h6) ?_
     refine g0 pcs_ok 7 [] (.go [cN 7]) ⟨[(2,.bool false)],[],0⟩ ([]) aN ?_
     refine go_ret rfl ?_
     refine rf ⟨[(2,.bool false)],[],0⟩ [.bool false] (cvR hE []) ?_
     refine congrArg (fun x=>Ret.ret (AV.bool x)) ?_
     rw [Bool.eq_iff_iff]
     simp only [alnumB,Bool.or_eq_true,Bool.and_eq_true,decide_eq_true_eq,Bool.false_eq_true,true_iff,false_iff]
     omega
 ·refine gb 5 false (decide (c ≥ 97)) (decide_eq_false h1) ?_
  refine g0 pcs_ok 8 [] (.op 6 10 [cN 7]) ⟨[(0,.int .u8 c),(9,.bool false),(12,.bool (decide (c ≥ 65)))],[],0⟩ ([]) aN ?_
  by_cases h7:c ≥ 65
  ·refine gb 12 true (decide (c ≥ 65)) (decide_eq_true h7) ?_
   refine g0 pcs_ok 6 [] (.op 6 15 [cN 7]) ⟨[(0,.int .u8 c),(17,.bool (decide (c≤90)))],[],0⟩ ([]) aN ?_
   by_cases h8:c≤90
   ·refine gb 17 true (decide (c≤90)) (decide_eq_true h8) ?_
    refine g0 pcs_ok 10 [] (.go [cN 7]) ⟨[(2,.bool true)],[],0⟩ ([]) aN ?_
    refine go_ret rfl ?_
    refine rf ⟨[(2,.bool true)],[],0⟩ [.bool true] (cvR hE []) ?_
    refine congrArg (fun x=>Ret.ret (AV.bool x)) ?_
    rw [Bool.eq_iff_iff]
    simp only [alnumB,Bool.or_eq_true,Bool.and_eq_true,decide_eq_true_eq,Bool.false_eq_true,true_iff,false_iff]
    omega
   ·refine gb 17 false (decide (c≤90)) (decide_eq_false h8) ?_
    refine g0 pcs_ok 4 [] (.op 6 18 [cN 7]) ⟨[(0,.int .u8 c),(17,.bool false),(20,.bool (decide (c ≥ 48)))],[],0⟩ ([]) aN ?_
    by_cases h9:c ≥ 48
    ·refine gb 20 true (decide (c ≥ 48)) (decide_eq_true h9) ?_
     refine g0 pcs_ok 7 [] (.go [cN 7]) ⟨[(2,.bool (decide (c≤57)))],[],0⟩ ([]) aN ?_
     refine go_ret rfl ?_
     refine rf ⟨[(2,.bool (decide (c≤57)))],[],0⟩ [.bool (decide (c≤57))] (cvR hE []) ?_
     refine congrArg (fun x=>Ret.ret (AV.bool x)) ?_
     rw [Bool.eq_iff_iff]
     simp only [alnumB,Bool.or_eq_true,Bool.and_eq_true,decide_eq_true_eq,Bool.false_eq_true,true_iff,false_iff]
     omega
    ·refine gb 20 false (decide (c ≥ 48)) (decide_eq_false h9) ?_
     refine g0 pcs_ok 7 [] (.go [cN 7]) ⟨[(2,.bool false)],[],0⟩ ([]) aN ?_
     refine go_ret rfl ?_
     refine rf ⟨[(2,.bool false)],[],0⟩ [.bool false] (cvR hE []) ?_
     refine congrArg (fun x=>Ret.ret (AV.bool x)) ?_
     rw [Bool.eq_iff_iff]
     simp only [alnumB,Bool.or_eq_true,Bool.and_eq_true,decide_eq_true_eq,Bool.false_eq_true,true_iff,false_iff]
     omega
  ·refine gb 12 false (decide (c ≥ 65)) (decide_eq_false h7) ?_
   refine g0 pcs_ok 9 [] (.op 6 18 [cN 7]) ⟨[(0,.int .u8 c),(17,.bool false),(20,.bool (decide (c ≥ 48)))],[],0⟩ ([]) aN ?_
   by_cases h10:c ≥ 48
   ·refine gb 20 true (decide (c ≥ 48)) (decide_eq_true h10) ?_
    refine g0 pcs_ok 7 [] (.go [cN 7]) ⟨[(2,.bool (decide (c≤57)))],[],0⟩ ([]) aN ?_
    refine go_ret rfl ?_
    refine rf ⟨[(2,.bool (decide (c≤57)))],[],0⟩ [.bool (decide (c≤57))] (cvR hE []) ?_
    refine congrArg (fun x=>Ret.ret (AV.bool x)) ?_
    rw [Bool.eq_iff_iff]
    simp only [alnumB,Bool.or_eq_true,Bool.and_eq_true,decide_eq_true_eq,Bool.false_eq_true,true_iff,false_iff]
    omega
   ·refine gb 20 false (decide (c ≥ 48)) (decide_eq_false h10) ?_
    refine g0 pcs_ok 7 [] (.go [cN 7]) ⟨[(2,.bool false)],[],0⟩ ([]) aN ?_
    refine go_ret rfl ?_
    refine rf ⟨[(2,.bool false)],[],0⟩ [.bool false] (cvR hE []) ?_
    refine congrArg (fun x=>Ret.ret (AV.bool x)) ?_
    rw [Bool.eq_iff_iff]
    simp only [alnumB,Bool.or_eq_true,Bool.and_eq_true,decide_eq_true_eq,Bool.false_eq_true,true_iff,false_iff]
    omega
def h_alnum (args:List AV):Option (AV × List Cnd):=match args with | [.int .u8 c]=>some (.bool (alnumB c),[]) | _=>none
theorem pe_alnum_ok:PCOK Tryd.prog (pcF 51 h_alnum):=pcF_ok fun args v c h hc=>by
 unfold h_alnum at h
 split at h
 ·simp only [Option.some.injEq,Prod.mk.injEq] at h
  obtain ⟨rfl,rfl⟩:=h
  exact ⟨rfl,Ctr.pure rfl (alnum_ctr _) rfl⟩
 ·simp at h
end Go.SL
namespace Go.SL
open Go.Proofs
def wordsL:List ByteArray:=[bs [99,108,97,115,115],bs [109,101,116,104,111,100],bs [102,117,110,99],bs [101,110,100,102,117,110,99],bs [110,105,108],bs [116,114,117,101],bs [102,97,108,115,101],bs [110,111,116],bs [110,101,103],bs [97,110,100],bs [111,114],bs [110,101,119],bs [97,114,114,97,121],bs [108,101,110],bs [99,97,108,108],bs [98,105,110,100],bs [97,112,112,108,121],bs [115,101,110,100],bs [119,101,97,107],bs [100,101,114,101,102],bs [102,105,110,97,108],bs [112,114,105,110,116],bs [105,110,112,117,116],bs [99,108,111,99,107],bs [115,112,97,119,110],bs [121,105,101,108,100],bs [116,104,114,111,119],bs [114,101,116,117,114,110],bs [105,102],bs [101,108,115,101],bs [119,104,105,108,101],bs [116,114,121],bs [99,97,116,99,104],bs [102,105,110,97,108,108,121],bs [101,110,100]]
def reservedB (s:ByteArray):Bool:=wordsL.any fun w=>decide (s = w)
def nameB (s:ByteArray):Bool:=decide (1≤s.size∧s.size≤12) && (!decide (byteAt s 0≤57)) && (!reservedB s) && (List.range s.size).all (fun j=>alnumB (byteAt s j))
theorem nameB_iff (s:ByteArray):nameB s = true ↔ (1≤s.size∧s.size≤12)∧57 < byteAt s 0∧reservedB s = false∧∀ j,j < s.size→alnumB (byteAt s j) = true:=by
 simp [nameB,and_assoc]
theorem reserved_ctr (s:ByteArray) :Ctr Tryd.prog 50 [.str s] [] 0 (fun r _ _=>r = .ret (.bool (reservedB s))):=by
 refine ctr_body Tryd.func50 rfl (by kernel_rfl) Tryd.ntmps50 rfl rfl fun E hE=>?_
 refine g0 pcs_ok 16 [] (.go [cN 105,cN 53,.b 0,cN 7]) ⟨[(3,.str s),(4,.bool (decide (s = (bs [99,108,97,115,115]))))],[],0⟩ ([]) aN ?_
 by_cases h1:s = (bs [99,108,97,115,115])
 ·refine gb 4 true (decide (s = (bs [99,108,97,115,115]))) (decide_eq_true h1) ?_
  refine g0 pcs_ok 7 [] (.go [cN 213,.b 0,cN 7]) ⟨[(2,.bool true)],[],0⟩ ([]) aN ?_
  refine go_ret rfl ?_
  refine rf ⟨[(2,.bool true)],[],0⟩ [.bool true] (cvR hE []) ?_
  refine congrArg (fun x=>Ret.ret (AV.bool x)) ?_
  subst h1
  kernel_rfl
 ·refine gb 4 false (decide (s = (bs [99,108,97,115,115]))) (decide_eq_false h1) ?_
  refine g0 pcs_ok 6 [] (.go [cN 423,cN 53,.b 0,cN 7]) ⟨[(3,.str s),(4,.bool (decide (s = (bs [109,101,116,104,111,100]))))],[],0⟩ ([]) aN ?_
  by_cases h2:s = (bs [109,101,116,104,111,100])
  ·refine gb 4 true (decide (s = (bs [109,101,116,104,111,100]))) (decide_eq_true h2) ?_
   refine g0 pcs_ok 7 [] (.go [cN 213,.b 0,cN 7]) ⟨[(2,.bool true)],[],0⟩ ([]) aN ?_
   refine go_ret rfl ?_
   refine rf ⟨[(2,.bool true)],[],0⟩ [.bool true] (cvR hE []) ?_
   refine congrArg (fun x=>Ret.ret (AV.bool x)) ?_
   subst h2
   kernel_rfl
  ·refine gb 4 false (decide (s = (bs [109,101,116,104,111,100]))) (decide_eq_false h2) ?_
   refine g0 pcs_ok 6 [] (.go [cN 1695,cN 53,.b 0,cN 7]) ⟨[(3,.str s),(4,.bool (decide (s = (bs [102,117,110,99]))))],[],0⟩ ([]) aN ?_
   by_cases h3:s = (bs [102,117,110,99])
   ·refine gb 4 true (decide (s = (bs [102,117,110,99]))) (decide_eq_true h3) ?_
    refine g0 pcs_ok 7 [] (.go [cN 213,.b 0,cN 7]) ⟨[(2,.bool true)],[],0⟩ ([]) aN ?_
    refine go_ret rfl ?_
    refine rf ⟨[(2,.bool true)],[],0⟩ [.bool true] (cvR hE []) ?_
    refine congrArg (fun x=>Ret.ret (AV.bool x)) ?_
    subst h3
    kernel_rfl
   ·refine gb 4 false (decide (s = (bs [102,117,110,99]))) (decide_eq_false h3) ?_
    refine g0 pcs_ok 6 [] (.go [cN 6783,cN 53,.b 0,cN 7]) ⟨[(3,.str s),(4,.bool (decide (s = (bs [101,110,100,102,117,110,99]))))],[],0⟩ ([]) aN ?_
    by_cases h4:s = (bs [101,110,100,102,117,110,99])
    ·refine gb 4 true (decide (s = (bs [101,110,100,102,117,110,99]))) (decide_eq_true h4) ?_
     refine g0 pcs_ok 7 [] (.go [cN 213,.b 0,cN 7]) ⟨[(2,.bool true)],[],0⟩ ([]) aN ?_
     refine go_ret rfl ?_
     refine rf ⟨[(2,.bool true)],[],0⟩ [.bool true] (cvR hE []) ?_
     refine congrArg (fun x=>Ret.ret (AV.bool x)) ?_
     subst h4
     kernel_rfl
    ·refine gb 4 false (decide (s = (bs [101,110,100,102,117,110,99]))) (decide_eq_false h4) ?_
     refine g0 pcs_ok 6 [] (.go [cN 27135,cN 53,.b 0,cN 7]) ⟨[(3,.str s),(4,.bool (decide (s = (bs [110,105,108]))))],[],0⟩ ([]) aN ?_
     by_cases h5:s = (bs [110,105,108])
     ·refine gb 4 true (decide (s = (bs [110,105,108]))) (decide_eq_true h5) ?_
      refine g0 pcs_ok 7 [] (.go [cN 213,.b 0,cN 7]) ⟨[(2,.bool true)],[],0⟩ ([]) aN ?_
      refine go_ret rfl ?_
      refine rf ⟨[(2,.bool true)],[],0⟩ [.bool true] (cvR hE []) ?_
      refine congrArg (fun x=>Ret.ret (AV.bool x)) ?_
      subst h5
      kernel_rfl
     ·refine gb 4 false (decide (s = (bs [110,105,108]))) (decide_eq_false h5) ?_
      refine g0 pcs_ok 6 [] (.go [cN 108543,cN 53,.b 0,cN 7]) ⟨[(3,.str s),(4,.bool (decide (s = (bs [116,114,117,101]))))],[],0⟩ ([]) aN ?_
      by_cases h6:s = (bs [116,114,117,101])
      ·refine gb 4 true (decide (s = (bs [116,114,117,101]))) (decide_eq_true h6) ?_
       refine g0 pcs_ok 7 [] (.go [cN 213,.b 0,cN 7]) ⟨[(2,.bool true)],[],0⟩ ([]) aN ?_
       refine go_ret rfl ?_
       refine rf ⟨[(2,.bool true)],[],0⟩ [.bool true] (cvR hE []) ?_
       refine congrArg (fun x=>Ret.ret (AV.bool x)) ?_
       subst h6
       kernel_rfl
      ·refine gb 4 false (decide (s = (bs [116,114,117,101]))) (decide_eq_false h6) ?_
       refine g0 pcs_ok 6 [] (.go [cN 434175,cN 53,.b 0,cN 7]) ⟨[(3,.str s),(4,.bool (decide (s = (bs [102,97,108,115,101]))))],[],0⟩ ([]) aN ?_
       by_cases h7:s = (bs [102,97,108,115,101])
       ·refine gb 4 true (decide (s = (bs [102,97,108,115,101]))) (decide_eq_true h7) ?_
        refine g0 pcs_ok 7 [] (.go [cN 213,.b 0,cN 7]) ⟨[(2,.bool true)],[],0⟩ ([]) aN ?_
        refine go_ret rfl ?_
        refine rf ⟨[(2,.bool true)],[],0⟩ [.bool true] (cvR hE []) ?_
        refine congrArg (fun x=>Ret.ret (AV.bool x)) ?_
        subst h7
        kernel_rfl
       ·refine gb 4 false (decide (s = (bs [102,97,108,115,101]))) (decide_eq_false h7) ?_
        refine g0 pcs_ok 6 [] (.go [cN 1736703,cN 53,.b 0,cN 7]) ⟨[(3,.str s),(4,.bool (decide (s = (bs [110,111,116]))))],[],0⟩ ([]) aN ?_
        by_cases h8:s = (bs [110,111,116])
        ·refine gb 4 true (decide (s = (bs [110,111,116]))) (decide_eq_true h8) ?_
         refine g0 pcs_ok 7 [] (.go [cN 213,.b 0,cN 7]) ⟨[(2,.bool true)],[],0⟩ ([]) aN ?_
         refine go_ret rfl ?_
         refine rf ⟨[(2,.bool true)],[],0⟩ [.bool true] (cvR hE []) ?_
         refine congrArg (fun x=>Ret.ret (AV.bool x)) ?_
         subst h8
         kernel_rfl
        ·refine gb 4 false (decide (s = (bs [110,111,116]))) (decide_eq_false h8) ?_
         refine g0 pcs_ok 6 [] (.go [cN 6946815,cN 53,.b 0,cN 7]) ⟨[(3,.str s),(4,.bool (decide (s = (bs [110,101,103]))))],[],0⟩ ([]) aN ?_
         by_cases h9:s = (bs [110,101,103])
         ·refine gb 4 true (decide (s = (bs [110,101,103]))) (decide_eq_true h9) ?_
          refine g0 pcs_ok 7 [] (.go [cN 213,.b 0,cN 7]) ⟨[(2,.bool true)],[],0⟩ ([]) aN ?_
          refine go_ret rfl ?_
          refine rf ⟨[(2,.bool true)],[],0⟩ [.bool true] (cvR hE []) ?_
          refine congrArg (fun x=>Ret.ret (AV.bool x)) ?_
          subst h9
          kernel_rfl
         ·refine gb 4 false (decide (s = (bs [110,101,103]))) (decide_eq_false h9) ?_
          refine g0 pcs_ok 6 [] (.go [cN 27787263,cN 53,.b 0,cN 7]) ⟨[(3,.str s),(4,.bool (decide (s = (bs [97,110,100]))))],[],0⟩ ([]) aN ?_
          by_cases h10:s = (bs [97,110,100])
          ·refine gb 4 true (decide (s = (bs [97,110,100]))) (decide_eq_true h10) ?_
           refine g0 pcs_ok 7 [] (.go [cN 213,.b 0,cN 7]) ⟨[(2,.bool true)],[],0⟩ ([]) aN ?_
           refine go_ret rfl ?_
           refine rf ⟨[(2,.bool true)],[],0⟩ [.bool true] (cvR hE []) ?_
           refine congrArg (fun x=>Ret.ret (AV.bool x)) ?_
           subst h10
           kernel_rfl
          ·refine gb 4 false (decide (s = (bs [97,110,100]))) (decide_eq_false h10) ?_
           refine g0 pcs_ok 6 [] (.go [cN 111149055,cN 53,.b 0,cN 7]) ⟨[(3,.str s),(4,.bool (decide (s = (bs [111,114]))))],[],0⟩ ([]) aN ?_
           by_cases h11:s = (bs [111,114])
           ·refine gb 4 true (decide (s = (bs [111,114]))) (decide_eq_true h11) ?_
            refine g0 pcs_ok 7 [] (.go [cN 213,.b 0,cN 7]) ⟨[(2,.bool true)],[],0⟩ ([]) aN ?_
            refine go_ret rfl ?_
            refine rf ⟨[(2,.bool true)],[],0⟩ [.bool true] (cvR hE []) ?_
            refine congrArg (fun x=>Ret.ret (AV.bool x)) ?_
            subst h11
            kernel_rfl
           ·refine gb 4 false (decide (s = (bs [111,114]))) (decide_eq_false h11) ?_
            refine g0 pcs_ok 6 [] (.go [cN 444596223,cN 53,.b 0,cN 7]) ⟨[(3,.str s),(4,.bool (decide (s = (bs [110,101,119]))))],[],0⟩ ([]) aN ?_
            by_cases h12:s = (bs [110,101,119])
            ·refine gb 4 true (decide (s = (bs [110,101,119]))) (decide_eq_true h12) ?_
             refine g0 pcs_ok 7 [] (.go [cN 213,.b 0,cN 7]) ⟨[(2,.bool true)],[],0⟩ ([]) aN ?_
             refine go_ret rfl ?_
             refine rf ⟨[(2,.bool true)],[],0⟩ [.bool true] (cvR hE []) ?_
             refine congrArg (fun x=>Ret.ret (AV.bool x)) ?_
             subst h12
             kernel_rfl
            ·refine gb 4 false (decide (s = (bs [110,101,119]))) (decide_eq_false h12) ?_
             refine g0 pcs_ok 6 [] (.go [cN 1778384895,cN 53,.b 0,cN 7]) ⟨[(3,.str s),(4,.bool (decide (s = (bs [97,114,114,97,121]))))],[],0⟩ ([]) aN ?_
             by_cases h13:s = (bs [97,114,114,97,121])
             ·refine gb 4 true (decide (s = (bs [97,114,114,97,121]))) (decide_eq_true h13) ?_
              refine g0 pcs_ok 7 [] (.go [cN 213,.b 0,cN 7]) ⟨[(2,.bool true)],[],0⟩ ([]) aN ?_
              refine go_ret rfl ?_
              refine rf ⟨[(2,.bool true)],[],0⟩ [.bool true] (cvR hE []) ?_
              refine congrArg (fun x=>Ret.ret (AV.bool x)) ?_
              subst h13
              kernel_rfl
             ·refine gb 4 false (decide (s = (bs [97,114,114,97,121]))) (decide_eq_false h13) ?_
              refine g0 pcs_ok 6 [] (.go [cN 7113539583,cN 53,.b 0,cN 7]) ⟨[(3,.str s),(4,.bool (decide (s = (bs [108,101,110]))))],[],0⟩ ([]) aN ?_
              by_cases h14:s = (bs [108,101,110])
              ·refine gb 4 true (decide (s = (bs [108,101,110]))) (decide_eq_true h14) ?_
               refine g0 pcs_ok 7 [] (.go [cN 213,.b 0,cN 7]) ⟨[(2,.bool true)],[],0⟩ ([]) aN ?_
               refine go_ret rfl ?_
               refine rf ⟨[(2,.bool true)],[],0⟩ [.bool true] (cvR hE []) ?_
               refine congrArg (fun x=>Ret.ret (AV.bool x)) ?_
               subst h14
               kernel_rfl
              ·refine gb 4 false (decide (s = (bs [108,101,110]))) (decide_eq_false h14) ?_
               refine g0 pcs_ok 6 [] (.go [cN 28454158335,cN 53,.b 0,cN 7]) ⟨[(3,.str s),(4,.bool (decide (s = (bs [99,97,108,108]))))],[],0⟩ ([]) aN ?_
               by_cases h15:s = (bs [99,97,108,108])
               ·refine gb 4 true (decide (s = (bs [99,97,108,108]))) (decide_eq_true h15) ?_
                refine g0 pcs_ok 7 [] (.go [cN 213,.b 0,cN 7]) ⟨[(2,.bool true)],[],0⟩ ([]) aN ?_
                refine go_ret rfl ?_
                refine rf ⟨[(2,.bool true)],[],0⟩ [.bool true] (cvR hE []) ?_
                refine congrArg (fun x=>Ret.ret (AV.bool x)) ?_
                subst h15
                kernel_rfl
               ·refine gb 4 false (decide (s = (bs [99,97,108,108]))) (decide_eq_false h15) ?_
                refine g0 pcs_ok 6 [] (.go [cN 113816633343,cN 53,.b 0,cN 7]) ⟨[(3,.str s),(4,.bool (decide (s = (bs [98,105,110,100]))))],[],0⟩ ([]) aN ?_
                by_cases h16:s = (bs [98,105,110,100])
                ·refine gb 4 true (decide (s = (bs [98,105,110,100]))) (decide_eq_true h16) ?_
                 refine g0 pcs_ok 7 [] (.go [cN 213,.b 0,cN 7]) ⟨[(2,.bool true)],[],0⟩ ([]) aN ?_
                 refine go_ret rfl ?_
                 refine rf ⟨[(2,.bool true)],[],0⟩ [.bool true] (cvR hE []) ?_
                 refine congrArg (fun x=>Ret.ret (AV.bool x)) ?_
                 subst h16
                 kernel_rfl
                ·refine gb 4 false (decide (s = (bs [98,105,110,100]))) (decide_eq_false h16) ?_
                 refine g0 pcs_ok 6 [] (.go [cN 455266533375,cN 53,.b 0,cN 7]) ⟨[(3,.str s),(4,.bool (decide (s = (bs [97,112,112,108,121]))))],[],0⟩ ([]) aN ?_
                 by_cases h17:s = (bs [97,112,112,108,121])
                 ·refine gb 4 true (decide (s = (bs [97,112,112,108,121]))) (decide_eq_true h17) ?_
                  refine g0 pcs_ok 7 [] (.go [cN 213,.b 0,cN 7]) ⟨[(2,.bool true)],[],0⟩ ([]) aN ?_
                  refine go_ret rfl ?_
                  refine rf ⟨[(2,.bool true)],[],0⟩ [.bool true] (cvR hE []) ?_
                  refine congrArg (fun x=>Ret.ret (AV.bool x)) ?_
                  subst h17
                  kernel_rfl
                 ·refine gb 4 false (decide (s = (bs [97,112,112,108,121]))) (decide_eq_false h17) ?_
                  refine g0 pcs_ok 6 [] (.go [cN 1821066133503,cN 53,.b 0,cN 7]) ⟨[(3,.str s),(4,.bool (decide (s = (bs [115,101,110,100]))))],[],0⟩ ([]) aN ?_
                  by_cases h18:s = (bs [115,101,110,100])
                  ·refine gb 4 true (decide (s = (bs [115,101,110,100]))) (decide_eq_true h18) ?_
                   refine g0 pcs_ok 7 [] (.go [cN 213,.b 0,cN 7]) ⟨[(2,.bool true)],[],0⟩ ([]) aN ?_
                   refine go_ret rfl ?_
                   refine rf ⟨[(2,.bool true)],[],0⟩ [.bool true] (cvR hE []) ?_
                   refine congrArg (fun x=>Ret.ret (AV.bool x)) ?_
                   subst h18
                   kernel_rfl
                  ·refine gb 4 false (decide (s = (bs [115,101,110,100]))) (decide_eq_false h18) ?_
                   refine g0 pcs_ok 6 [] (.go [cN 7284264534015,cN 53,.b 0,cN 7]) ⟨[(3,.str s),(4,.bool (decide (s = (bs [119,101,97,107]))))],[],0⟩ ([]) aN ?_
                   by_cases h19:s = (bs [119,101,97,107])
                   ·refine gb 4 true (decide (s = (bs [119,101,97,107]))) (decide_eq_true h19) ?_
                    refine g0 pcs_ok 7 [] (.go [cN 213,.b 0,cN 7]) ⟨[(2,.bool true)],[],0⟩ ([]) aN ?_
                    refine go_ret rfl ?_
                    refine rf ⟨[(2,.bool true)],[],0⟩ [.bool true] (cvR hE []) ?_
                    refine congrArg (fun x=>Ret.ret (AV.bool x)) ?_
                    subst h19
                    kernel_rfl
                   ·refine gb 4 false (decide (s = (bs [119,101,97,107]))) (decide_eq_false h19) ?_
                    refine g0 pcs_ok 6 [] (.go [cN 29137058136063,cN 53,.b 0,cN 7]) ⟨[(3,.str s),(4,.bool (decide (s = (bs [100,101,114,101,102]))))],[],0⟩ ([]) aN ?_
                    by_cases h20:s = (bs [100,101,114,101,102])
                    ·refine gb 4 true (decide (s = (bs [100,101,114,101,102]))) (decide_eq_true h20) ?_
                     refine g0 pcs_ok 7 [] (.go [cN 213,.b 0,cN 7]) ⟨[(2,.bool true)],[],0⟩ ([]) aN ?_
                     refine go_ret rfl ?_
                     refine rf ⟨[(2,.bool true)],[],0⟩ [.bool true] (cvR hE []) ?_
                     refine congrArg (fun x=>Ret.ret (AV.bool x)) ?_
                     subst h20
                     kernel_rfl
                    ·refine gb 4 false (decide (s = (bs [100,101,114,101,102]))) (decide_eq_false h20) ?_
                     refine g0 pcs_ok 6 [] (.go [cN 116548232544255,cN 53,.b 0,cN 7]) ⟨[(3,.str s),(4,.bool (decide (s = (bs [102,105,110,97,108]))))],[],0⟩ ([]) aN ?_
                     by_cases h21:s = (bs [102,105,110,97,108])
                     ·refine gb 4 true (decide (s = (bs [102,105,110,97,108]))) (decide_eq_true h21) ?_
                      refine g0 pcs_ok 7 [] (.go [cN 213,.b 0,cN 7]) ⟨[(2,.bool true)],[],0⟩ ([]) aN ?_
                      refine go_ret rfl ?_
                      refine rf ⟨[(2,.bool true)],[],0⟩ [.bool true] (cvR hE []) ?_
                      refine congrArg (fun x=>Ret.ret (AV.bool x)) ?_
                      subst h21
                      kernel_rfl
                     ·refine gb 4 false (decide (s = (bs [102,105,110,97,108]))) (decide_eq_false h21) ?_
                      refine g0 pcs_ok 6 [] (.go [cN 466192930177023,cN 53,.b 0,cN 7]) ⟨[(3,.str s),(4,.bool (decide (s = (bs [112,114,105,110,116]))))],[],0⟩ ([]) aN ?_
                      by_cases h22:s = (bs [112,114,105,110,116])
                      ·refine gb 4 true (decide (s = (bs [112,114,105,110,116]))) (decide_eq_true h22) ?_
                       refine g0 pcs_ok 7 [] (.go [cN 213,.b 0,cN 7]) ⟨[(2,.bool true)],[],0⟩ ([]) aN ?_
                       refine go_ret rfl ?_
                       refine rf ⟨[(2,.bool true)],[],0⟩ [.bool true] (cvR hE []) ?_
                       refine congrArg (fun x=>Ret.ret (AV.bool x)) ?_
                       subst h22
                       kernel_rfl
                      ·refine gb 4 false (decide (s = (bs [112,114,105,110,116]))) (decide_eq_false h22) ?_
                       refine g0 pcs_ok 6 [] (.go [cN 1864771720708095,cN 53,.b 0,cN 7]) ⟨[(3,.str s),(4,.bool (decide (s = (bs [105,110,112,117,116]))))],[],0⟩ ([]) aN ?_
                       by_cases h23:s = (bs [105,110,112,117,116])
                       ·refine gb 4 true (decide (s = (bs [105,110,112,117,116]))) (decide_eq_true h23) ?_
                        refine g0 pcs_ok 7 [] (.go [cN 213,.b 0,cN 7]) ⟨[(2,.bool true)],[],0⟩ ([]) aN ?_
                        refine go_ret rfl ?_
                        refine rf ⟨[(2,.bool true)],[],0⟩ [.bool true] (cvR hE []) ?_
                        refine congrArg (fun x=>Ret.ret (AV.bool x)) ?_
                        subst h23
                        kernel_rfl
                       ·refine gb 4 false (decide (s = (bs [105,110,112,117,116]))) (decide_eq_false h23) ?_
                        refine g0 pcs_ok 6 [] (.go [cN 7459086882832383,cN 53,.b 0,cN 7]) ⟨[(3,.str s),(4,.bool (decide (s = (bs [99,108,111,99,107]))))],[],0⟩ ([]) aN ?_
                        by_cases h24:s = (bs [99,108,111,99,107])
                        ·refine gb 4 true (decide (s = (bs [99,108,111,99,107]))) (decide_eq_true h24) ?_
                         refine g0 pcs_ok 7 [] (.go [cN 213,.b 0,cN 7]) ⟨[(2,.bool true)],[],0⟩ ([]) aN ?_
                         refine go_ret rfl ?_
                         refine rf ⟨[(2,.bool true)],[],0⟩ [.bool true] (cvR hE []) ?_
                         refine congrArg (fun x=>Ret.ret (AV.bool x)) ?_
                         subst h24
                         kernel_rfl
                        ·refine gb 4 false (decide (s = (bs [99,108,111,99,107]))) (decide_eq_false h24) ?_
                         refine g0 pcs_ok 6 [] (.go [cN 29836347531329535,cN 53,.b 0,cN 7]) ⟨[(3,.str s),(4,.bool (decide (s = (bs [115,112,97,119,110]))))],[],0⟩ ([]) aN ?_
                         by_cases h25:s = (bs [115,112,97,119,110])
                         ·refine gb 4 true (decide (s = (bs [115,112,97,119,110]))) (decide_eq_true h25) ?_
                          refine g0 pcs_ok 7 [] (.go [cN 213,.b 0,cN 7]) ⟨[(2,.bool true)],[],0⟩ ([]) aN ?_
                          refine go_ret rfl ?_
                          refine rf ⟨[(2,.bool true)],[],0⟩ [.bool true] (cvR hE []) ?_
                          refine congrArg (fun x=>Ret.ret (AV.bool x)) ?_
                          subst h25
                          kernel_rfl
                         ·refine gb 4 false (decide (s = (bs [115,112,97,119,110]))) (decide_eq_false h25) ?_
                          refine g0 pcs_ok 6 [] (.go [cN 119345390125318143,cN 53,.b 0,cN 7]) ⟨[(3,.str s),(4,.bool (decide (s = (bs [121,105,101,108,100]))))],[],0⟩ ([]) aN ?_
                          by_cases h26:s = (bs [121,105,101,108,100])
                          ·refine gb 4 true (decide (s = (bs [121,105,101,108,100]))) (decide_eq_true h26) ?_
                           refine g0 pcs_ok 7 [] (.go [cN 213,.b 0,cN 7]) ⟨[(2,.bool true)],[],0⟩ ([]) aN ?_
                           refine go_ret rfl ?_
                           refine rf ⟨[(2,.bool true)],[],0⟩ [.bool true] (cvR hE []) ?_
                           refine congrArg (fun x=>Ret.ret (AV.bool x)) ?_
                           subst h26
                           kernel_rfl
                          ·refine gb 4 false (decide (s = (bs [121,105,101,108,100]))) (decide_eq_false h26) ?_
                           refine g0 pcs_ok 6 [] (.go [cN 477381560501272575,cN 53,.b 0,cN 7]) ⟨[(3,.str s),(4,.bool (decide (s = (bs [116,104,114,111,119]))))],[],0⟩ ([]) aN ?_
                           by_cases h27:s = (bs [116,104,114,111,119])
                           ·refine gb 4 true (decide (s = (bs [116,104,114,111,119]))) (decide_eq_true h27) ?_
                            refine g0 pcs_ok 7 [] (.go [cN 213,.b 0,cN 7]) ⟨[(2,.bool true)],[],0⟩ ([]) aN ?_
                            refine go_ret rfl ?_
                            refine rf ⟨[(2,.bool true)],[],0⟩ [.bool true] (cvR hE []) ?_
                            refine congrArg (fun x=>Ret.ret (AV.bool x)) ?_
                            subst h27
                            kernel_rfl
                           ·refine gb 4 false (decide (s = (bs [116,104,114,111,119]))) (decide_eq_false h27) ?_
                            refine g0 pcs_ok 6 [] (.go [cN 1909526242005090303,cN 53,.b 0,cN 7]) ⟨[(3,.str s),(4,.bool (decide (s = (bs [114,101,116,117,114,110]))))],[],0⟩ ([]) aN ?_
                            by_cases h28:s = (bs [114,101,116,117,114,110])
                            ·refine gb 4 true (decide (s = (bs [114,101,116,117,114,110]))) (decide_eq_true h28) ?_
                             refine g0 pcs_ok 7 [] (.go [cN 213,.b 0,cN 7]) ⟨[(2,.bool true)],[],0⟩ ([]) aN ?_
                             refine go_ret rfl ?_
                             refine rf ⟨[(2,.bool true)],[],0⟩ [.bool true] (cvR hE []) ?_
                             refine congrArg (fun x=>Ret.ret (AV.bool x)) ?_
                             subst h28
                             kernel_rfl
                            ·refine gb 4 false (decide (s = (bs [114,101,116,117,114,110]))) (decide_eq_false h28) ?_
                             refine g0 pcs_ok 6 [] (.go [cN 7638104968020361215,cN 53,.b 0,cN 7]) ⟨[(3,.str s),(4,.bool (decide (s = (bs [105,102]))))],[],0⟩ ([]) aN ?_
                             by_cases h29:s = (bs [105,102])
                             ·refine gb 4 true (decide (s = (bs [105,102]))) (decide_eq_true h29) ?_
                              refine g0 pcs_ok 7 [] (.go [cN 213,.b 0,cN 7]) ⟨[(2,.bool true)],[],0⟩ ([]) aN ?_
                              refine go_ret rfl ?_
                              refine rf ⟨[(2,.bool true)],[],0⟩ [.bool true] (cvR hE []) ?_
                              refine congrArg (fun x=>Ret.ret (AV.bool x)) ?_
                              subst h29
                              kernel_rfl
                             ·refine gb 4 false (decide (s = (bs [105,102]))) (decide_eq_false h29) ?_
                              refine g0 pcs_ok 6 [] (.go [cN 30552419872081444863,cN 53,.b 0,cN 7]) ⟨[(3,.str s),(4,.bool (decide (s = (bs [101,108,115,101]))))],[],0⟩ ([]) aN ?_
                              by_cases h30:s = (bs [101,108,115,101])
                              ·refine gb 4 true (decide (s = (bs [101,108,115,101]))) (decide_eq_true h30) ?_
                               refine g0 pcs_ok 7 [] (.go [cN 213,.b 0,cN 7]) ⟨[(2,.bool true)],[],0⟩ ([]) aN ?_
                               refine go_ret rfl ?_
                               refine rf ⟨[(2,.bool true)],[],0⟩ [.bool true] (cvR hE []) ?_
                               refine congrArg (fun x=>Ret.ret (AV.bool x)) ?_
                               subst h30
                               kernel_rfl
                              ·refine gb 4 false (decide (s = (bs [101,108,115,101]))) (decide_eq_false h30) ?_
                               refine g0 pcs_ok 6 [] (.go [cN 122209679488325779455,cN 53,.b 0,cN 7]) ⟨[(3,.str s),(4,.bool (decide (s = (bs [119,104,105,108,101]))))],[],0⟩ ([]) aN ?_
                               by_cases h31:s = (bs [119,104,105,108,101])
                               ·refine gb 4 true (decide (s = (bs [119,104,105,108,101]))) (decide_eq_true h31) ?_
                                refine g0 pcs_ok 7 [] (.go [cN 213,.b 0,cN 7]) ⟨[(2,.bool true)],[],0⟩ ([]) aN ?_
                                refine go_ret rfl ?_
                                refine rf ⟨[(2,.bool true)],[],0⟩ [.bool true] (cvR hE []) ?_
                                refine congrArg (fun x=>Ret.ret (AV.bool x)) ?_
                                subst h31
                                kernel_rfl
                               ·refine gb 4 false (decide (s = (bs [119,104,105,108,101]))) (decide_eq_false h31) ?_
                                refine g0 pcs_ok 6 [] (.go [cN 488838717953303117823,cN 53,.b 0,cN 7]) ⟨[(3,.str s),(4,.bool (decide (s = (bs [116,114,121]))))],[],0⟩ ([]) aN ?_
                                by_cases h32:s = (bs [116,114,121])
                                ·refine gb 4 true (decide (s = (bs [116,114,121]))) (decide_eq_true h32) ?_
                                 refine g0 pcs_ok 7 [] (.go [cN 213,.b 0,cN 7]) ⟨[(2,.bool true)],[],0⟩ ([]) aN ?_
                                 refine go_ret rfl ?_
                                 refine rf ⟨[(2,.bool true)],[],0⟩ [.bool true] (cvR hE []) ?_
                                 refine congrArg (fun x=>Ret.ret (AV.bool x)) ?_
                                 subst h32
                                 kernel_rfl
                                ·refine gb 4 false (decide (s = (bs [116,114,121]))) (decide_eq_false h32) ?_
                                 refine g0 pcs_ok 6 [] (.go [cN 1955354871813212471295,cN 53,.b 0,cN 7]) ⟨[(3,.str s),(4,.bool (decide (s = (bs [99,97,116,99,104]))))],[],0⟩ ([]) aN ?_
                                 by_cases h33:s = (bs [99,97,116,99,104])
                                 ·refine gb 4 true (decide (s = (bs [99,97,116,99,104]))) (decide_eq_true h33) ?_
                                  refine g0 pcs_ok 7 [] (.go [cN 213,.b 0,cN 7]) ⟨[(2,.bool true)],[],0⟩ ([]) aN ?_
                                  refine go_ret rfl ?_
                                  refine rf ⟨[(2,.bool true)],[],0⟩ [.bool true] (cvR hE []) ?_
                                  refine congrArg (fun x=>Ret.ret (AV.bool x)) ?_
                                  subst h33
                                  kernel_rfl
                                 ·refine gb 4 false (decide (s = (bs [99,97,116,99,104]))) (decide_eq_false h33) ?_
                                  refine g0 pcs_ok 6 [] (.go [cN 7821419487252849885183,cN 53,.b 0,cN 7]) ⟨[(3,.str s),(4,.bool (decide (s = (bs [102,105,110,97,108,108,121]))))],[],0⟩ ([]) aN ?_
                                  by_cases h34:s = (bs [102,105,110,97,108,108,121])
                                  ·refine gb 4 true (decide (s = (bs [102,105,110,97,108,108,121]))) (decide_eq_true h34) ?_
                                   refine g0 pcs_ok 7 [] (.go [cN 213,.b 0,cN 7]) ⟨[(2,.bool true)],[],0⟩ ([]) aN ?_
                                   refine go_ret rfl ?_
                                   refine rf ⟨[(2,.bool true)],[],0⟩ [.bool true] (cvR hE []) ?_
                                   refine congrArg (fun x=>Ret.ret (AV.bool x)) ?_
                                   subst h34
                                   kernel_rfl
                                  ·refine gb 4 false (decide (s = (bs [102,105,110,97,108,108,121]))) (decide_eq_false h34) ?_
                                   refine g0 pcs_ok 5 [] (.go [cN 53,.b 0,cN 7]) ⟨[(4,.bool (decide (s = (bs [101,110,100]))))],[],0⟩ ([]) aN ?_
                                   by_cases h35:s = (bs [101,110,100])
                                   ·refine gb 4 true (decide (s = (bs [101,110,100]))) (decide_eq_true h35) ?_
                                    refine g0 pcs_ok 5 [] (.go [cN 213,.b 0,cN 7]) ⟨[(2,.bool true)],[],0⟩ ([]) aN ?_
                                    refine go_ret rfl ?_
                                    refine rf ⟨[(2,.bool true)],[],0⟩ [.bool true] (cvR hE []) ?_
                                    refine congrArg (fun x=>Ret.ret (AV.bool x)) ?_
                                    subst h35
                                    kernel_rfl
                                   ·refine gb 4 false (decide (s = (bs [101,110,100]))) (decide_eq_false h35) ?_
                                    refine g0 pcs_ok 7 [] (.go [cN 15]) ⟨[(2,.bool false)],[],0⟩ ([]) aN ?_
                                    refine go_ret rfl ?_
                                    refine rf ⟨[(2,.bool false)],[],0⟩ [.bool false] (cvR hE []) ?_
                                    refine congrArg (fun x=>Ret.ret (AV.bool x)) ?_
                                    symm
                                    simp [reservedB,wordsL, *]
def h_reserved (args:List AV):Option (AV × List Cnd):=match args with | [.str s]=>some (.bool (reservedB s),[]) | _=>none
theorem pe_reserved_ok:PCOK Tryd.prog (pcF 50 h_reserved):=pcF_ok fun args v c h hc=>by
 unfold h_reserved at h
 split at h
 ·simp only [Option.some.injEq,Prod.mk.injEq] at h
  obtain ⟨rfl,rfl⟩:=h
  exact ⟨rfl,Ctr.pure rfl (reserved_ctr _) rfl⟩
 ·simp at h
theorem lname_ctr (s:ByteArray) :Ctr Tryd.prog 38 [.str s] [] 0 (fun r _ _=>r = .ret (.bool (nameB s))):=by
 have hpc:=(pcOr_ok pe_reserved_ok (pcOr_ok pe_alnum_ok pc0_ok))
 refine ctr_body Tryd.func38 rfl (by kernel_rfl) Tryd.ntmps38 rfl rfl fun E hE=>?_
 refine g0 hpc 10 [] (.op 12 3 [cN 13,cN 7]) ⟨[(0,.str s),(6,.bool (decide (s = (bs []))))],[],0⟩ ([]) aN ?_
 by_cases h1:s = (bs [])
 ·refine gb 6 true (decide (s = (bs []))) (decide_eq_true h1) ?_
  refine g0 hpc 20 [] (.go [cN 53,cN 7]) ⟨[(2,.bool false)],[],0⟩ ([]) aN ?_
  refine go_ret rfl ?_
  refine rf ⟨[(2,.bool false)],[],0⟩ [.bool false] (cvR hE []) ?_
  refine congrArg (fun x=>Ret.ret (AV.bool x)) ?_
  symm
  rw [Bool.eq_false_iff,ne_eq,nameB_iff]
  rintro ⟨⟨a1,a2⟩,a3,a4,a5⟩
  first | omega | (rw [h1] at a1; exact absurd a1 (by decide)) | (simp_all; done) | (have:=a5 k (by omega); simp_all)
 ·refine gb 6 false (decide (s = (bs []))) (decide_eq_false h1) ?_
  have hpos:=size_pos h1
  refine g0 hpc 6 [] (.op 12 8 [cN 13,cN 7]) ⟨[(0,.str s),(11,.bool (decide ((s.size:Int) > 12)))],[],0⟩ ([]) aN ?_
  by_cases h2:(s.size:Int) > 12
  ·refine gb 11 true (decide ((s.size:Int) > 12)) (decide_eq_true h2) ?_
   refine g0 hpc 15 [] (.go [cN 53,cN 7]) ⟨[(2,.bool false)],[],0⟩ ([]) aN ?_
   refine go_ret rfl ?_
   refine rf ⟨[(2,.bool false)],[],0⟩ [.bool false] (cvR hE []) ?_
   refine congrArg (fun x=>Ret.ret (AV.bool x)) ?_
   symm
   rw [Bool.eq_false_iff,ne_eq,nameB_iff]
   rintro ⟨⟨a1,a2⟩,a3,a4,a5⟩
   first | omega | (rw [h1] at a1; exact absurd a1 (by decide)) | (simp_all; done) | (have:=a5 k (by omega); simp_all)
  ·refine gb 11 false (decide ((s.size:Int) > 12)) (decide_eq_false h2) ?_
   refine g0 hpc 6 [] (.op 12 13 [cN 13,cN 7]) ⟨[(0,.str s),(16,.bool (decide ((byteAt s 0)≤57)))],[],0⟩ ([.b (ixB 0 ((s.size:Nat)))]) (aD (by first | assumption | omega | (simp_all; done) | (simp_all; omega)) aN) ?_
   by_cases h3:(byteAt s 0)≤57
   ·refine gb 16 true (decide ((byteAt s 0)≤57)) (decide_eq_true h3) ?_
    refine g0 hpc 10 [] (.go [cN 53,cN 7]) ⟨[(2,.bool false)],[],0⟩ ([]) aN ?_
    refine go_ret rfl ?_
    refine rf ⟨[(2,.bool false)],[],0⟩ [.bool false] (cvR hE []) ?_
    refine congrArg (fun x=>Ret.ret (AV.bool x)) ?_
    symm
    rw [Bool.eq_false_iff,ne_eq,nameB_iff]
    rintro ⟨⟨a1,a2⟩,a3,a4,a5⟩
    first | omega | (rw [h1] at a1; exact absurd a1 (by decide)) | (simp_all; done) | (have:=a5 k (by omega); simp_all)
   ·refine gb 16 false (decide ((byteAt s 0)≤57)) (decide_eq_false h3) ?_
    refine g0 hpc 5 [] (.go [cN 13,cN 7]) ⟨[(0,.str s),(19,.bool (reservedB s))],[],0⟩ ([]) aN ?_
    rcases Bool.eq_false_or_eq_true (reservedB s) with h4 | h4
    ·refine gb 19 true (reservedB s) (h4) ?_
     refine g0 hpc 5 [] (.go [cN 53,cN 7]) ⟨[(2,.bool false)],[],0⟩ ([]) aN ?_
     refine go_ret rfl ?_
     refine rf ⟨[(2,.bool false)],[],0⟩ [.bool false] (cvR hE []) ?_
     refine congrArg (fun x=>Ret.ret (AV.bool x)) ?_
     symm
     rw [Bool.eq_false_iff,ne_eq,nameB_iff]
     rintro ⟨⟨a1,a2⟩,a3,a4,a5⟩
     first | omega | (rw [h1] at a1; exact absurd a1 (by decide)) | (simp_all; done) | (have:=a5 k (by omega); simp_all)
    ·refine gb 19 false (reservedB s) (h4) ?_
     refine g0 hpc 10 [] (.go [cN 58,.b 0,cN 15]) ⟨[(0,.str s),(21,nI s.size),(22,iI 0)],[],0⟩ ([]) aN ?_
     refine go_loop (fun (k:Nat)=>⟨[(0,.str s),(21,nI s.size),(22,nI k)],[],0⟩) (fun (k:Nat)=>k≤s.size∧∀ j,j < k→alnumB (byteAt s j) = true) (fun (k:Nat)=>s.size - k) (0:Nat) rfl (by exact ⟨by omega,fun j hj=>by omega⟩) (cvR hE []) ?_
     intro k hR50
     have hR5:k≤s.size∧∀ j,j < k→alnumB (byteAt s j) = true:=hR50
     refine g0 hpc 5 [] (.go [cN 466,cN 467]) ⟨[(0,.str s),(21,nI s.size),(22,nI k),(23,.bool (decide ((k:Int) < (s.size:Int))))],[],0⟩ ([]) aN ?_
     by_cases h6:(k:Int) < (s.size:Int)
     ·refine gb 23 true (decide ((k:Int) < (s.size:Int))) (decide_eq_true h6) ?_
      refine g0 hpc 17 [] (.go [cN 7475,.b 1,cN 935]) ⟨[(0,.str s),(21,nI s.size),(22,nI k),(29,.bool (!(alnumB (byteAt s k))))],[],0⟩ ([.b (ixB (k:Int) ((s.size:Nat)))]) (aD (by first | assumption | omega | (simp_all; done) | (simp_all; omega)) aN) ?_
      rcases Bool.eq_false_or_eq_true (!(alnumB (byteAt s k))) with h7 | h7
      ·refine gb 29 true (!(alnumB (byteAt s k))) (h7) ?_
       refine g0 hpc 5 [] (.go [cN 29901,.b 1,cN 935]) ⟨[(2,.bool false)],[],0⟩ ([]) aN ?_
       refine go_ret rfl ?_
       refine rt_loop ?_
       refine rf ⟨[(2,.bool false)],[],0⟩ [.bool false] (cvR hE []) ?_
       refine congrArg (fun x=>Ret.ret (AV.bool x)) ?_
       symm
       rw [Bool.eq_false_iff,ne_eq,nameB_iff]
       rintro ⟨⟨a1,a2⟩,a3,a4,a5⟩
       first | omega | (rw [h6] at a1; exact absurd a1 (by decide)) | (simp_all; done) | (have:=a5 k (by omega); simp_all)
      ·refine gb 29 false (!(alnumB (byteAt s k))) (h7) ?_
       refine g0 hpc 7 [] (.go []) ⟨[(0,.str s),(21,nI s.size),(22,nI (k + 1))],[],0⟩ ([.b (rng (((k + 1):Nat):Int))]) (aR (by omega) (by omega) aN) ?_
       refine go_again ((k + 1)) (by first | (dsimp only; omega) | omega) (by exact ⟨by omega,all_succ hR5.2 (by simpa using h7)⟩) (cvR hE [])
     ·refine gb 23 false (decide ((k:Int) < (s.size:Int))) (decide_eq_false h6) ?_
      refine g0 hpc 1 [] (.go [cN 933,cN 467]) ⟨[],[],0⟩ ([]) aN ?_
      refine go_brk rfl rfl rfl ?_
      refine g0 hpc 4 [] (.go [cN 31]) ⟨[(2,.bool true)],[],0⟩ ([]) aN ?_
      refine go_ret rfl ?_
      refine rf ⟨[(2,.bool true)],[],0⟩ [.bool true] (cvR hE []) ?_
      refine congrArg (fun x=>Ret.ret (AV.bool x)) ?_
      symm
      rw [nameB_iff]
      exact ⟨⟨by omega,by omega⟩,by omega,by simp_all,fun j hj=>hR5.2 j (by omega)⟩
def h_lname (args:List AV):Option (AV × List Cnd):=match args with | [.str s]=>some (.bool (nameB s),[]) | _=>none
theorem pe_lname_ok:PCOK Tryd.prog (pcF 38 h_lname):=pcF_ok fun args v c h hc=>by
 unfold h_lname at h
 split at h
 ·simp only [Option.some.injEq,Prod.mk.injEq] at h
  obtain ⟨rfl,rfl⟩:=h
  exact ⟨rfl,Ctr.pure rfl (lname_ctr _) rfl⟩
 ·simp at h
end Go.SL
namespace Go.SL
open Go.Proofs
def nxtV (l:Arr Int) (a:Nat) (n:Int):Int:=if l.n≤a then 0 else (((l.f a).tmod n + n).tmod n)
def advV (m a:Nat):Nat:=if m≤a then a else a + 1
theorem nxtV_bounds (l:Arr Int) (a:Nat) {n:Int} (h:0 < n):0≤nxtV l a n∧nxtV l a n < n:=by
 unfold nxtV
 split
 ·omega
 ·have h2:=Int.lt_tmod_of_pos (l.f a) h
  exact ⟨Int.tmod_nonneg n (by omega),Int.tmod_lt_of_pos _ h⟩
theorem advV_le {m a:Nat} (h:a≤m):advV m a≤m:=by unfold advV; split <;> omega
theorem next_ctr (l:Arr Int) (hl:l.n < 281474976710656) (a:Nat) (ha:a≤l.n) (n:Int) (h1:0 < n) (h2:n < 1000):Ctr Tryd.prog 19 [.ptr 0 0,.int .i64 n] [(0,.row 61 [ints l,.int .i64 (a:Int)])] 1 (fun r hp1 n1=>r = .ret (.int .i64 (nxtV l a n))∧hp1 = [(0,.row 61 [ints l,.int .i64 (advV l.n a:Int)])]∧n1 = 1):=by
 have hb1:=Int.tmod_lt_of_pos (l.f a) h1
 have hb2:=Int.lt_tmod_of_pos (l.f a) h1
 refine ctr_body Tryd.func19 rfl (by kernel_rfl) Tryd.ntmps19 rfl rfl fun E hE=>?_
 refine g0 pcs_ok 7 [] (.go [cN 13,cN 7]) ⟨[(0,.ptr 0 0),(1,iI n),(15,.bool (decide ((a:Int) ≥ (l.n:Int))))],[(0,.row 61 [ints l,nI a])],1⟩ ([]) aN ?_
 by_cases h1:(a:Int) ≥ (l.n:Int)
 ·refine gb 15 true (decide ((a:Int) ≥ (l.n:Int))) (decide_eq_true h1) ?_
  refine g0 pcs_ok 5 [] (.go [cN 53,cN 7]) ⟨[(4,iI 0)],[(0,.row 61 [ints l,nI a])],1⟩ ([]) aN ?_
  refine go_ret rfl ?_
  refine rf ⟨[(4,iI 0)],[(0,.row 61 [ints l,nI a])],1⟩ [iI 0] (cvR hE [0]) ?_
  refine ⟨?_,?_,rfl⟩
  ·exact congrArg (fun x=>Ret.ret (AV.int .i64 x)) (by simp only [nxtV]; rw [if_pos (by omega)])
  ·have e:advV l.n a = a:=by unfold advV; rw [if_pos (by omega)]
   rw [e] <;> rfl
 ·refine gb 15 false (decide ((a:Int) ≥ (l.n:Int))) (decide_eq_false h1) ?_
  refine g0 pcs_ok 26 [] (.go [cN 63]) ⟨[(4,iI (Int.tmod ((Int.tmod (l.f a) n) + n) n))],[(0,.row 61 [ints l,nI (a + 1)])],1⟩ ([.b (decide (n ≠ (0:Int))),.b (rng ((Int.tmod (l.f a) n) + n)),.b (decide (n ≠ (0:Int))),.b true,.b (rng (((a + 1):Nat):Int)),.b (ixB (a:Int) l.n)]) (aD (by omega) (aR (by omega) (by omega) (aD (by omega) (aT (aR (by omega) (by omega) (aD (by omega) aN)))))) ?_
  refine go_ret rfl ?_
  refine rf ⟨[(4,iI (Int.tmod ((Int.tmod (l.f a) n) + n) n))],[(0,.row 61 [ints l,nI (a + 1)])],1⟩ [iI (Int.tmod ((Int.tmod (l.f a) n) + n) n)] (cvR hE [0]) ?_
  refine ⟨?_,?_,rfl⟩
  ·exact congrArg (fun x=>Ret.ret (AV.int .i64 x)) (by simp only [nxtV]; rw [if_neg (by omega)])
  ·have e:advV l.n a = a + 1:=by unfold advV; rw [if_neg (by omega)]
   rw [e] <;> rfl
def h_next:PC:=fun f args hm=>if f = 19 then (match args with
 | [.ptr l 0,.int .i64 n]=>(match hm l with
  | some (.row ty [.lst 1 m F,.int .i64 a])=>if ty = 61 then some (.int .i64 (nxtV ⟨m,fun i=>intOf (F i)⟩ a.toNat n),[.p (isInts F),.b (decide (0≤a∧a≤m)),.b (decide (0 < n∧n < 1000)),.b (decide (m < 281474976710656))],
    [(l,some (.row 61 [.lst 1 m F,.int .i64 a]))],[(l,some (.row 61 [.lst 1 m F,.int .i64 (advV m a.toNat:Nat)]))]) else none
  | _=>none)
 | _=>none) else none
theorem pe_next_ok:PCOK Tryd.prog h_next:=fun f args hm v c hs set h hc=>by
 unfold h_next at h
 split at h
 ·rename_i hf
  subst hf
  split at h
  ·rename_i l n
   split at h
   ·rename_i ty m F a hr
    split at h
    ·rename_i hty
     subst hty
     simp only [Option.some.injEq,Prod.mk.injEq] at h
     obtain ⟨rfl,rfl,rfl,rfl⟩:=h
     simp only [AllT,decide_eq_true_eq,and_true] at hc
     obtain ⟨q1,q2,q3,q4⟩:=hc
     obtain ⟨k,rfl⟩:∃ k:Nat,a = k:=⟨a.toNat,by omega⟩
     obtain ⟨g,rfl⟩:∃ g:Nat→Int,F = fun i=>[.int .i64 (g i)]:=⟨_,funext q1⟩
     exact ⟨crok1 (next_ctr ⟨m,g⟩ q4 k (by show k≤m; omega) n q3.1 q3.2) rfl rfl rfl rfl l,by simpa using hr⟩
    ·simp at h
   ·simp at h
  ·simp at h
 ·simp at h
end Go.SL
namespace Go.SL
open Go.Proofs
def strs4:List ByteArray:=[bs [],bs [120],bs [105,116,39,115],bs [97,98]]
def LitOK (v:Val):Prop:=(v.kind = 1∧v.num = 0∧v.s = eB)∨(v.kind = 2∧(v.num = 0∨v.num = 1)∧v.s = eB)∨(v.kind = 3∧-2≤v.num∧v.num≤6∧v.s = eB)∨(v.kind = 4∧v.num = 0∧v.s ∈ strs4)
theorem name_ctr (l:Arr Int) (hl:l.n < 281474976710656) (a:Nat) (ha:a≤l.n) (q:Nat) (b:Int):Ctr Tryd.prog 36 [.ptr 0 0] [(0,.row 70 [.ptr 1 0,.slice 2 0 q 9,.int .i64 b]),(1,.row 61 [ints l,.int .i64 (a:Int)])] 3 (fun r hp1 n1=>∃ (a':Nat) (s:ByteArray),a'≤l.n∧s ∈ vars5∧r = .ret (.str s)∧hp1 = [(0,.row 70 [.ptr 1 0,.slice 2 0 q 9,.int .i64 b]),(1,.row 61 [ints l,.int .i64 (a':Int)])]∧n1 = 3):=by
 have ha1:=advV_le ha
 have ha2:=advV_le ha1
 have ha3:=advV_le ha2
 have ha4:=advV_le ha3
 have ha5:=advV_le ha4
 have hpc:=(pcOr_ok pe_next_ok pc0_ok)
 refine ctr_body Tryd.func36 rfl (by kernel_rfl) Tryd.ntmps36 rfl rfl fun E hE=>?_
 have hb1:=nxtV_bounds l a (n:=5) (by omega)
 refine g0 hpc 12 [] (.op 6 6 [cN 7]) ⟨[(3,.slice 3 0 5 1),(8,iI (nxtV l a 5))],[(0,.row 70 [.ptr 1 0,.slice 2 0 q 9,iI b]),(1,.row 61 [ints l,nI (advV l.n a)]),(3,.row 9 [.str (bs [97]),.str (bs [98]),.str (bs [99]),.str (bs [100]),.str (bs [101])])],4⟩ ([.p (isInts (fun i=>[AV.int .i64 (l.f i)])),.b (decide ((0:Int)≤(a:Int)∧(a:Int)≤(l.n:Int))),.b true,.b (decide (l.n < 281474976710656))]) (aP (by intro _; rfl) (aD (by omega) (aT (aD (by omega) aN)))) ?_
 have h2c:(nxtV l a 5) = 0∨(nxtV l a 5) = 1∨(nxtV l a 5) = 2∨(nxtV l a 5) = 3∨(nxtV l a 5) = 4:=by have hb:=nxtV_bounds l a (n:=5) (by omega); omega
 rcases h2c with h2 | h2 | h2 | h2 | h2
 ·refine go_val 8 (iI (nxtV l a 5)) (iI 0) (by kernel_rfl) (congrArg (AV.int .i64) h2) ?_
  refine g0 hpc 5 [] (.go [cN 7]) ⟨[(2,.str (bs [97]))],[(0,.row 70 [.ptr 1 0,.slice 2 0 q 9,iI b]),(1,.row 61 [ints l,nI (advV l.n a)])],4⟩ ([.b true]) (aT aN) ?_
  refine go_ret rfl ?_
  refine rf ⟨[(2,.str (bs [97]))],[(0,.row 70 [.ptr 1 0,.slice 2 0 q 9,iI b]),(1,.row 61 [ints l,nI (advV l.n a)])],3⟩ [.str (bs [97])] (cvR hE [0,1,2]) ?_
  exact ⟨(advV l.n a),(bs [97]),by assumption,by simp [vars5],rfl,rfl,rfl⟩
 ·refine go_val 8 (iI (nxtV l a 5)) (iI 1) (by kernel_rfl) (congrArg (AV.int .i64) h2) ?_
  refine g0 hpc 5 [] (.go [cN 7]) ⟨[(2,.str (bs [98]))],[(0,.row 70 [.ptr 1 0,.slice 2 0 q 9,iI b]),(1,.row 61 [ints l,nI (advV l.n a)])],4⟩ ([.b true]) (aT aN) ?_
  refine go_ret rfl ?_
  refine rf ⟨[(2,.str (bs [98]))],[(0,.row 70 [.ptr 1 0,.slice 2 0 q 9,iI b]),(1,.row 61 [ints l,nI (advV l.n a)])],3⟩ [.str (bs [98])] (cvR hE [0,1,2]) ?_
  exact ⟨(advV l.n a),(bs [98]),by assumption,by simp [vars5],rfl,rfl,rfl⟩
 ·refine go_val 8 (iI (nxtV l a 5)) (iI 2) (by kernel_rfl) (congrArg (AV.int .i64) h2) ?_
  refine g0 hpc 5 [] (.go [cN 7]) ⟨[(2,.str (bs [99]))],[(0,.row 70 [.ptr 1 0,.slice 2 0 q 9,iI b]),(1,.row 61 [ints l,nI (advV l.n a)])],4⟩ ([.b true]) (aT aN) ?_
  refine go_ret rfl ?_
  refine rf ⟨[(2,.str (bs [99]))],[(0,.row 70 [.ptr 1 0,.slice 2 0 q 9,iI b]),(1,.row 61 [ints l,nI (advV l.n a)])],3⟩ [.str (bs [99])] (cvR hE [0,1,2]) ?_
  exact ⟨(advV l.n a),(bs [99]),by assumption,by simp [vars5],rfl,rfl,rfl⟩
 ·refine go_val 8 (iI (nxtV l a 5)) (iI 3) (by kernel_rfl) (congrArg (AV.int .i64) h2) ?_
  refine g0 hpc 5 [] (.go [cN 7]) ⟨[(2,.str (bs [100]))],[(0,.row 70 [.ptr 1 0,.slice 2 0 q 9,iI b]),(1,.row 61 [ints l,nI (advV l.n a)])],4⟩ ([.b true]) (aT aN) ?_
  refine go_ret rfl ?_
  refine rf ⟨[(2,.str (bs [100]))],[(0,.row 70 [.ptr 1 0,.slice 2 0 q 9,iI b]),(1,.row 61 [ints l,nI (advV l.n a)])],3⟩ [.str (bs [100])] (cvR hE [0,1,2]) ?_
  exact ⟨(advV l.n a),(bs [100]),by assumption,by simp [vars5],rfl,rfl,rfl⟩
 ·refine go_val 8 (iI (nxtV l a 5)) (iI 4) (by kernel_rfl) (congrArg (AV.int .i64) h2) ?_
  refine g0 hpc 5 [] (.go [cN 7]) ⟨[(2,.str (bs [101]))],[(0,.row 70 [.ptr 1 0,.slice 2 0 q 9,iI b]),(1,.row 61 [ints l,nI (advV l.n a)])],4⟩ ([.b true]) (aT aN) ?_
  refine go_ret rfl ?_
  refine rf ⟨[(2,.str (bs [101]))],[(0,.row 70 [.ptr 1 0,.slice 2 0 q 9,iI b]),(1,.row 61 [ints l,nI (advV l.n a)])],3⟩ [.str (bs [101])] (cvR hE [0,1,2]) ?_
  exact ⟨(advV l.n a),(bs [101]),by assumption,by simp [vars5],rfl,rfl,rfl⟩
theorem literal_ctr (l:Arr Int) (hl:l.n < 281474976710656) (a:Nat) (ha:a≤l.n) (q:Nat) (b:Int):Ctr Tryd.prog 49 [.ptr 0 0] [(0,.row 70 [.ptr 1 0,.slice 2 0 q 9,.int .i64 b]),(1,.row 61 [ints l,.int .i64 (a:Int)])] 3 (fun r hp1 n1=>∃ (a':Nat) (v:Val),a'≤l.n∧LitOK v∧r = .ret (.agg [.int .i64 v.kind,.int .i64 v.num,.str v.s])∧hp1 = [(0,.row 70 [.ptr 1 0,.slice 2 0 q 9,.int .i64 b]),(1,.row 61 [ints l,.int .i64 (a':Int)])]∧n1 = 4):=by
 have ha1:=advV_le ha
 have ha2:=advV_le ha1
 have ha3:=advV_le ha2
 have ha4:=advV_le ha3
 have ha5:=advV_le ha4
 have hpc:=(pcOr_ok pe_next_ok pc0_ok)
 refine ctr_body Tryd.func49 rfl (by kernel_rfl) Tryd.ntmps49 rfl rfl fun E hE=>?_
 have hb1:=nxtV_bounds l a (n:=6) (by omega)
 refine g0 hpc 19 [] (.go [cN 53,.b 0,cN 7]) ⟨[(0,.ptr 0 0),(2,.ptr 3 0),(7,iI (nxtV l a 6)),(8,.bool (decide ((nxtV l a 6) = 0)))],[(0,.row 70 [.ptr 1 0,.slice 2 0 q 9,iI b]),(1,.row 61 [ints l,nI (advV l.n a)]),(3,.row 43 [iI 0,iI 0,.str (bs [])])],4⟩ ([.p (isInts (fun i=>[AV.int .i64 (l.f i)])),.b (decide ((0:Int)≤(a:Int)∧(a:Int)≤(l.n:Int))),.b true,.b (decide (l.n < 281474976710656))]) (aP (by intro _; rfl) (aD (by omega) (aT (aD (by omega) aN)))) ?_
 have h2c:(nxtV l a 6) = 0∨(nxtV l a 6) = 1∨(nxtV l a 6) = 2∨(nxtV l a 6) = 3∨(nxtV l a 6) = 4∨(nxtV l a 6) = 5:=by have hb:=nxtV_bounds l a (n:=6) (by omega); omega
 rcases h2c with h2 | h2 | h2 | h2 | h2 | h2
 ·refine go_val 7 (iI (nxtV l a 6)) (iI 0) (by kernel_rfl) (congrArg (AV.int .i64) h2) ?_
  refine go_val 8 (.bool (decide ((nxtV l a 6) = 0))) (.bool true) (by kernel_rfl) (congrArg AV.bool (by rw [h2]; rfl)) ?_
  refine g0 hpc 6 [] (.go [cN 213,.b 0,cN 7]) ⟨[(2,.ptr 3 0)],[(0,.row 70 [.ptr 1 0,.slice 2 0 q 9,iI b]),(1,.row 61 [ints l,nI (advV l.n a)]),(3,.row 43 [iI 1,iI 0,.str (bs [])])],4⟩ ([.b true]) (aT aN) ?_
  refine go_ret rfl ?_
  refine rfC ⟨[(2,.ptr 3 0)],[(0,.row 70 [.ptr 1 0,.slice 2 0 q 9,iI b]),(1,.row 61 [ints l,nI (advV l.n a)]),(3,.row 43 [iI 1,iI 0,.str (bs [])])],4⟩ [(0,.row 70 [.ptr 1 0,.slice 2 0 q 9,iI b]),(1,.row 61 [ints l,nI (advV l.n a)])] [.agg [iI 1,iI 0,.str (bs [])]] (cvR hE [0,1,2,3]) ?_
  refine ⟨(advV l.n a),⟨1,0,(bs [])⟩,by assumption,?_,rfl,rfl,rfl⟩
  first | (simp [LitOK,strs4]; done) | (simp [LitOK,strs4]; omega)
 ·refine go_val 7 (iI (nxtV l a 6)) (iI 1) (by kernel_rfl) (congrArg (AV.int .i64) h2) ?_
  refine go_val 8 (.bool (decide ((nxtV l a 6) = 0))) (.bool false) (by kernel_rfl) (congrArg AV.bool (by rw [h2]; rfl)) ?_
  have hb3:=nxtV_bounds l (advV l.n a) (n:=2) (by omega)
  refine g0 hpc 17 [] (.go [cN 861,.b 0,cN 7]) ⟨[(2,.ptr 3 0)],[(0,.row 70 [.ptr 1 0,.slice 2 0 q 9,iI b]),(1,.row 61 [ints l,nI (advV l.n (advV l.n a))]),(3,.row 43 [iI 2,iI (nxtV l (advV l.n a) 2),.str (bs [])])],4⟩ ([.b true,.p (isInts (fun i=>[AV.int .i64 (l.f i)])),.b (decide ((0:Int)≤(((advV l.n a):Nat):Int)∧(((advV l.n a):Nat):Int)≤(l.n:Int))),.b true,.b (decide (l.n < 281474976710656))]) (aT (aP (by intro _; rfl) (aD (by omega) (aT (aD (by omega) aN))))) ?_
  refine go_ret rfl ?_
  refine rfC ⟨[(2,.ptr 3 0)],[(0,.row 70 [.ptr 1 0,.slice 2 0 q 9,iI b]),(1,.row 61 [ints l,nI (advV l.n (advV l.n a))]),(3,.row 43 [iI 2,iI (nxtV l (advV l.n a) 2),.str (bs [])])],4⟩ [(0,.row 70 [.ptr 1 0,.slice 2 0 q 9,iI b]),(1,.row 61 [ints l,nI (advV l.n (advV l.n a))])] [.agg [iI 2,iI (nxtV l (advV l.n a) 2),.str (bs [])]] (cvR hE [0,1,2,3]) ?_
  refine ⟨(advV l.n (advV l.n a)),⟨2,(nxtV l (advV l.n a) 2),(bs [])⟩,by assumption,?_,rfl,rfl,rfl⟩
  first | (simp [LitOK,strs4]; done) | (simp [LitOK,strs4]; omega)
 ·refine go_val 7 (iI (nxtV l a 6)) (iI 2) (by kernel_rfl) (congrArg (AV.int .i64) h2) ?_
  refine go_val 8 (.bool (decide ((nxtV l a 6) = 0))) (.bool false) (by kernel_rfl) (congrArg AV.bool (by rw [h2]; rfl)) ?_
  have hb4:=nxtV_bounds l (advV l.n a) (n:=4) (by omega)
  refine g0 hpc 21 [] (.op 3452 6 [cN 3453,.b 0,cN 7]) ⟨[(2,.ptr 3 0),(21,.slice 4 0 4 1),(26,iI (nxtV l (advV l.n a) 4))],[(0,.row 70 [.ptr 1 0,.slice 2 0 q 9,iI b]),(1,.row 61 [ints l,nI (advV l.n (advV l.n a))]),(3,.row 43 [iI 0,iI 0,.str (bs [])]),(4,.row 9 [.str (bs []),.str (bs [120]),.str (bs [105,116,39,115]),.str (bs [97,98])])],5⟩ ([.p (isInts (fun i=>[AV.int .i64 (l.f i)])),.b (decide ((0:Int)≤(((advV l.n a):Nat):Int)∧(((advV l.n a):Nat):Int)≤(l.n:Int))),.b true,.b (decide (l.n < 281474976710656))]) (aP (by intro _; rfl) (aD (by omega) (aT (aD (by omega) aN)))) ?_
  have h5c:(nxtV l (advV l.n a) 4) = 0∨(nxtV l (advV l.n a) 4) = 1∨(nxtV l (advV l.n a) 4) = 2∨(nxtV l (advV l.n a) 4) = 3:=by have hb:=nxtV_bounds l (advV l.n a) (n:=4) (by omega); omega
  rcases h5c with h5 | h5 | h5 | h5
  ·refine go_val 26 (iI (nxtV l (advV l.n a) 4)) (iI 0) (by kernel_rfl) (congrArg (AV.int .i64) h5) ?_
   refine g0 hpc 6 [] (.go [cN 3453,.b 0,cN 7]) ⟨[(2,.ptr 3 0)],[(0,.row 70 [.ptr 1 0,.slice 2 0 q 9,iI b]),(1,.row 61 [ints l,nI (advV l.n (advV l.n a))]),(3,.row 43 [iI 4,iI 0,.str (bs [])])],5⟩ ([.b true,.b true]) (aT (aT aN)) ?_
   refine go_ret rfl ?_
   refine rfC ⟨[(2,.ptr 3 0)],[(0,.row 70 [.ptr 1 0,.slice 2 0 q 9,iI b]),(1,.row 61 [ints l,nI (advV l.n (advV l.n a))]),(3,.row 43 [iI 4,iI 0,.str (bs [])])],4⟩ [(0,.row 70 [.ptr 1 0,.slice 2 0 q 9,iI b]),(1,.row 61 [ints l,nI (advV l.n (advV l.n a))])] [.agg [iI 4,iI 0,.str (bs [])]] (cvR hE [0,1,2,3]) ?_
   refine ⟨(advV l.n (advV l.n a)),⟨4,0,(bs [])⟩,by assumption,?_,rfl,rfl,rfl⟩
   first | (simp [LitOK,strs4]; done) | (simp [LitOK,strs4]; omega)
  ·refine go_val 26 (iI (nxtV l (advV l.n a) 4)) (iI 1) (by kernel_rfl) (congrArg (AV.int .i64) h5) ?_
   refine g0 hpc 6 [] (.go [cN 3453,.b 0,cN 7]) ⟨[(2,.ptr 3 0)],[(0,.row 70 [.ptr 1 0,.slice 2 0 q 9,iI b]),(1,.row 61 [ints l,nI (advV l.n (advV l.n a))]),(3,.row 43 [iI 4,iI 0,.str (bs [120])])],5⟩ ([.b true,.b true]) (aT (aT aN)) ?_
   refine go_ret rfl ?_
   refine rfC ⟨[(2,.ptr 3 0)],[(0,.row 70 [.ptr 1 0,.slice 2 0 q 9,iI b]),(1,.row 61 [ints l,nI (advV l.n (advV l.n a))]),(3,.row 43 [iI 4,iI 0,.str (bs [120])])],4⟩ [(0,.row 70 [.ptr 1 0,.slice 2 0 q 9,iI b]),(1,.row 61 [ints l,nI (advV l.n (advV l.n a))])] [.agg [iI 4,iI 0,.str (bs [120])]] (cvR hE [0,1,2,3]) ?_
   refine ⟨(advV l.n (advV l.n a)),⟨4,0,(bs [120])⟩,by assumption,?_,rfl,rfl,rfl⟩
   first | (simp [LitOK,strs4]; done) | (simp [LitOK,strs4]; omega)
  ·refine go_val 26 (iI (nxtV l (advV l.n a) 4)) (iI 2) (by kernel_rfl) (congrArg (AV.int .i64) h5) ?_
   refine g0 hpc 6 [] (.go [cN 3453,.b 0,cN 7]) ⟨[(2,.ptr 3 0)],[(0,.row 70 [.ptr 1 0,.slice 2 0 q 9,iI b]),(1,.row 61 [ints l,nI (advV l.n (advV l.n a))]),(3,.row 43 [iI 4,iI 0,.str (bs [105,116,39,115])])],5⟩ ([.b true,.b true]) (aT (aT aN)) ?_
   refine go_ret rfl ?_
   refine rfC ⟨[(2,.ptr 3 0)],[(0,.row 70 [.ptr 1 0,.slice 2 0 q 9,iI b]),(1,.row 61 [ints l,nI (advV l.n (advV l.n a))]),(3,.row 43 [iI 4,iI 0,.str (bs [105,116,39,115])])],4⟩ [(0,.row 70 [.ptr 1 0,.slice 2 0 q 9,iI b]),(1,.row 61 [ints l,nI (advV l.n (advV l.n a))])] [.agg [iI 4,iI 0,.str (bs [105,116,39,115])]] (cvR hE [0,1,2,3]) ?_
   refine ⟨(advV l.n (advV l.n a)),⟨4,0,(bs [105,116,39,115])⟩,by assumption,?_,rfl,rfl,rfl⟩
   first | (simp [LitOK,strs4]; done) | (simp [LitOK,strs4]; omega)
  ·refine go_val 26 (iI (nxtV l (advV l.n a) 4)) (iI 3) (by kernel_rfl) (congrArg (AV.int .i64) h5) ?_
   refine g0 hpc 6 [] (.go [cN 3453,.b 0,cN 7]) ⟨[(2,.ptr 3 0)],[(0,.row 70 [.ptr 1 0,.slice 2 0 q 9,iI b]),(1,.row 61 [ints l,nI (advV l.n (advV l.n a))]),(3,.row 43 [iI 4,iI 0,.str (bs [97,98])])],5⟩ ([.b true,.b true]) (aT (aT aN)) ?_
   refine go_ret rfl ?_
   refine rfC ⟨[(2,.ptr 3 0)],[(0,.row 70 [.ptr 1 0,.slice 2 0 q 9,iI b]),(1,.row 61 [ints l,nI (advV l.n (advV l.n a))]),(3,.row 43 [iI 4,iI 0,.str (bs [97,98])])],4⟩ [(0,.row 70 [.ptr 1 0,.slice 2 0 q 9,iI b]),(1,.row 61 [ints l,nI (advV l.n (advV l.n a))])] [.agg [iI 4,iI 0,.str (bs [97,98])]] (cvR hE [0,1,2,3]) ?_
   refine ⟨(advV l.n (advV l.n a)),⟨4,0,(bs [97,98])⟩,by assumption,?_,rfl,rfl,rfl⟩
   first | (simp [LitOK,strs4]; done) | (simp [LitOK,strs4]; omega)
 ·refine go_val 7 (iI (nxtV l a 6)) (iI 3) (by kernel_rfl) (congrArg (AV.int .i64) h2) ?_
  refine go_val 8 (.bool (decide ((nxtV l a 6) = 0))) (.bool false) (by kernel_rfl) (congrArg AV.bool (by rw [h2]; rfl)) ?_
  have hb6:=nxtV_bounds l (advV l.n a) (n:=9) (by omega)
  refine g0 hpc 26 [] (.go [cN 15]) ⟨[(2,.ptr 3 0)],[(0,.row 70 [.ptr 1 0,.slice 2 0 q 9,iI b]),(1,.row 61 [ints l,nI (advV l.n (advV l.n a))]),(3,.row 43 [iI 3,iI ((nxtV l (advV l.n a) 9) - 2),.str (bs [])])],4⟩ ([.b true,.b (rng ((nxtV l (advV l.n a) 9) - 2)),.p (isInts (fun i=>[AV.int .i64 (l.f i)])),.b (decide ((0:Int)≤(((advV l.n a):Nat):Int)∧(((advV l.n a):Nat):Int)≤(l.n:Int))),.b true,.b (decide (l.n < 281474976710656))]) (aT (aR (by omega) (by omega) (aP (by intro _; rfl) (aD (by omega) (aT (aD (by omega) aN)))))) ?_
  refine go_ret rfl ?_
  refine rfC ⟨[(2,.ptr 3 0)],[(0,.row 70 [.ptr 1 0,.slice 2 0 q 9,iI b]),(1,.row 61 [ints l,nI (advV l.n (advV l.n a))]),(3,.row 43 [iI 3,iI ((nxtV l (advV l.n a) 9) - 2),.str (bs [])])],4⟩ [(0,.row 70 [.ptr 1 0,.slice 2 0 q 9,iI b]),(1,.row 61 [ints l,nI (advV l.n (advV l.n a))])] [.agg [iI 3,iI ((nxtV l (advV l.n a) 9) - 2),.str (bs [])]] (cvR hE [0,1,2,3]) ?_
  refine ⟨(advV l.n (advV l.n a)),⟨3,((nxtV l (advV l.n a) 9) - 2),(bs [])⟩,by assumption,?_,rfl,rfl,rfl⟩
  first | (simp [LitOK,strs4]; done) | (simp [LitOK,strs4]; omega)
 ·refine go_val 7 (iI (nxtV l a 6)) (iI 4) (by kernel_rfl) (congrArg (AV.int .i64) h2) ?_
  refine go_val 8 (.bool (decide ((nxtV l a 6) = 0))) (.bool false) (by kernel_rfl) (congrArg AV.bool (by rw [h2]; rfl)) ?_
  have hb7:=nxtV_bounds l (advV l.n a) (n:=9) (by omega)
  refine g0 hpc 26 [] (.go [cN 15]) ⟨[(2,.ptr 3 0)],[(0,.row 70 [.ptr 1 0,.slice 2 0 q 9,iI b]),(1,.row 61 [ints l,nI (advV l.n (advV l.n a))]),(3,.row 43 [iI 3,iI ((nxtV l (advV l.n a) 9) - 2),.str (bs [])])],4⟩ ([.b true,.b (rng ((nxtV l (advV l.n a) 9) - 2)),.p (isInts (fun i=>[AV.int .i64 (l.f i)])),.b (decide ((0:Int)≤(((advV l.n a):Nat):Int)∧(((advV l.n a):Nat):Int)≤(l.n:Int))),.b true,.b (decide (l.n < 281474976710656))]) (aT (aR (by omega) (by omega) (aP (by intro _; rfl) (aD (by omega) (aT (aD (by omega) aN)))))) ?_
  refine go_ret rfl ?_
  refine rfC ⟨[(2,.ptr 3 0)],[(0,.row 70 [.ptr 1 0,.slice 2 0 q 9,iI b]),(1,.row 61 [ints l,nI (advV l.n (advV l.n a))]),(3,.row 43 [iI 3,iI ((nxtV l (advV l.n a) 9) - 2),.str (bs [])])],4⟩ [(0,.row 70 [.ptr 1 0,.slice 2 0 q 9,iI b]),(1,.row 61 [ints l,nI (advV l.n (advV l.n a))])] [.agg [iI 3,iI ((nxtV l (advV l.n a) 9) - 2),.str (bs [])]] (cvR hE [0,1,2,3]) ?_
  refine ⟨(advV l.n (advV l.n a)),⟨3,((nxtV l (advV l.n a) 9) - 2),(bs [])⟩,by assumption,?_,rfl,rfl,rfl⟩
  first | (simp [LitOK,strs4]; done) | (simp [LitOK,strs4]; omega)
 ·refine go_val 7 (iI (nxtV l a 6)) (iI 5) (by kernel_rfl) (congrArg (AV.int .i64) h2) ?_
  refine go_val 8 (.bool (decide ((nxtV l a 6) = 0))) (.bool false) (by kernel_rfl) (congrArg AV.bool (by rw [h2]; rfl)) ?_
  have hb8:=nxtV_bounds l (advV l.n a) (n:=9) (by omega)
  refine g0 hpc 26 [] (.go [cN 15]) ⟨[(2,.ptr 3 0)],[(0,.row 70 [.ptr 1 0,.slice 2 0 q 9,iI b]),(1,.row 61 [ints l,nI (advV l.n (advV l.n a))]),(3,.row 43 [iI 3,iI ((nxtV l (advV l.n a) 9) - 2),.str (bs [])])],4⟩ ([.b true,.b (rng ((nxtV l (advV l.n a) 9) - 2)),.p (isInts (fun i=>[AV.int .i64 (l.f i)])),.b (decide ((0:Int)≤(((advV l.n a):Nat):Int)∧(((advV l.n a):Nat):Int)≤(l.n:Int))),.b true,.b (decide (l.n < 281474976710656))]) (aT (aR (by omega) (by omega) (aP (by intro _; rfl) (aD (by omega) (aT (aD (by omega) aN)))))) ?_
  refine go_ret rfl ?_
  refine rfC ⟨[(2,.ptr 3 0)],[(0,.row 70 [.ptr 1 0,.slice 2 0 q 9,iI b]),(1,.row 61 [ints l,nI (advV l.n (advV l.n a))]),(3,.row 43 [iI 3,iI ((nxtV l (advV l.n a) 9) - 2),.str (bs [])])],4⟩ [(0,.row 70 [.ptr 1 0,.slice 2 0 q 9,iI b]),(1,.row 61 [ints l,nI (advV l.n (advV l.n a))])] [.agg [iI 3,iI ((nxtV l (advV l.n a) 9) - 2),.str (bs [])]] (cvR hE [0,1,2,3]) ?_
  refine ⟨(advV l.n (advV l.n a)),⟨3,((nxtV l (advV l.n a) 9) - 2),(bs [])⟩,by assumption,?_,rfl,rfl,rfl⟩
  first | (simp [LitOK,strs4]; done) | (simp [LitOK,strs4]; omega)
end Go.SL
