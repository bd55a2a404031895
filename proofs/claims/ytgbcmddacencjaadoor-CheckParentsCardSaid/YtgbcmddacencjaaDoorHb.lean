import Derived.Test.YtgbcmddacencjaaDoorGam
import Derived.Test.YtgbcmddacencjaaDoorEc
import Derived.Test.YtgbcmddacencjaaDoorVfm
set_option linter.unusedSimpArgs false
set_option linter.unusedVariables false
namespace Go.SL
open Go.Proofs
theorem parents_ctr (l:Arr Int) (hl:l.n < 281474976710656):Ctr Tryd.prog 4 [ints l] [] 0 (fun r hp1 n1=>r = .ret (.bool true)):=by
 refine ctr_body Tryd.func4 rfl (by kernel_rfl) Tryd.ntmps4 rfl rfl fun E hE=>?_
 refine g0 pcs_ok 6 [] (.op 6 0 [cN 7]) ⟨[(0,ints l)],[],0⟩ ([]) aN ?_
 refine gc (d:=some 13) [] sanity_ctr ?_
 rintro _ _ _ _ ⟨⟨⟩,rfl,rfl⟩
 refine g0 pcs_ok 6 [] (.op 14 1 [cN 15]) ⟨[(3,.bool true),(14,ints l)],[],0⟩ ([]) aN ?_
 refine gc (d:=some 15) [] (made_ctr l hl) ?_
 rintro _ _ _ _ ⟨⟨p,hp,⟨⟩⟩,rfl,rfl⟩
 refine g0 pcs_ok 7 [] (.op 30 1 [cN 31]) ⟨[(3,.bool true),(4,.ptr 1 0),(17,pgA p)],[(1,.row 27 (pgC p))],2⟩ ([.b true]) (aT aN) ?_
 refine gc (d:=some 18) [] (check_ctr p (made_ok hp).1.ok) ?_
 rintro _ _ _ _ ⟨⟨⟩,rfl,rfl⟩
 refine g0 pcs_ok 26 [] (.op 124 12 [cN 125,cN 63]) ⟨[(3,.bool true),(4,.ptr 1 0),(5,.ptr 6 0),(33,.bool (!decide (((infOf p).ends.n:Int) = (p.funcs.n:Int))))],[(1,.row 27 (pgC p)),(6,.row 32 (infC (infOf p)))],8⟩ ([.b true,.b true]) (aT (aT aN)) ?_
 refine gb 33 false (!decide (((infOf p).ends.n:Int) = (p.funcs.n:Int))) (ndecF (by have:=@inf_n p; omega)) ?_
 refine g0 pcs_ok 10 [] (.go [cN 125,cN 63]) ⟨[(3,.bool true),(4,.ptr 1 0),(5,.ptr 6 0),(41,.bool (!decide (((infOf p).parent.n:Int) = (p.funcs.n:Int))))],[(1,.row 27 (pgC p)),(6,.row 32 (infC (infOf p)))],8⟩ ([]) aN ?_
 refine gb 41 false (!decide (((infOf p).parent.n:Int) = (p.funcs.n:Int))) (ndecF (by have:=@inf_n p; omega)) ?_
 refine g0 pcs_ok 11 [] (.go [cN 506,.b 0,cN 127]) ⟨[(3,.bool true),(5,.ptr 6 0),(43,fcs p.funcs),(44,nI p.funcs.n),(45,iI 0)],[(6,.row 32 (infC (infOf p)))],8⟩ ([]) aN ?_
 refine go_loop (fun (f:Nat)=>⟨[(3,.bool true),(5,.ptr 0 0),(43,fcs p.funcs),(44,nI p.funcs.n),(45,nI f)],[(0,.row 32 (infC (infOf p)))],1⟩) (fun (f:Nat)=>f≤p.funcs.n) (fun (f:Nat)=>p.funcs.n - f) (0:Nat) rfl (by exact Nat.zero_le _) (cvR hE [6]) ?_
 intro f hR10
 have hR1:f≤p.funcs.n:=hR10
 refine g0 pcs_ok 5 [] (.go [cN 4050,cN 4051]) ⟨[(3,.bool true),(5,.ptr 0 0),(43,fcs p.funcs),(44,nI p.funcs.n),(45,nI f),(46,.bool (decide ((f:Int) < (p.funcs.n:Int))))],[(0,.row 32 (infC (infOf p)))],1⟩ ([]) aN ?_
 by_cases h2:(f:Int) < (p.funcs.n:Int)
 ·refine gb 46 true (decide ((f:Int) < (p.funcs.n:Int))) (decide_eq_true h2) ?_
  have hfb:=made_fn hp (f:=f) (by omega); have hfe:=hfb.e; have hfq:=hfb.q; have hsm:=hfb.small; have hdp:=hfb.deep; have hp4:=(made_ok hp).2; obtain ⟨hi1,hi2,hi3⟩:=@inf_n p
  refine g0 pcs_ok 16 [(60,.bool false)] (.go [cN 129637,cN 64819,.b 1,cN 8103]) ⟨[(3,.bool true),(5,.ptr 0 0),(8,nI f),(9,.ptr 1 0),(43,fcs p.funcs),(44,nI p.funcs.n),(45,nI f),(71,.bool (!decide ((((infOf p).parent.f f).n:Int) = ((p.funcs.f f).lines.n:Int))))],[(0,.row 32 (infC (infOf p))),(1,.row 41 (fcC (p.funcs.f f)))],2⟩ ([.b (ixB (f:Int) ((infOf p).parent.n)),.p ((AV.bool (!decide ((((infOf p).ends.f f).n:Int) = ((p.funcs.f f).lines.n:Int)))) = (AV.bool false)),.b (ixB (f:Int) ((infOf p).ends.n)),.b true,.b (ixB (f:Int) p.funcs.n)]) (aD (by omega) (aP (by exact congrArg AV.bool (ndecF (by omega))) (aD (by omega) (aT (aD (by omega) aN))))) ?_
  refine gb 71 false (!decide ((((infOf p).parent.f f).n:Int) = ((p.funcs.f f).lines.n:Int))) (ndecF (by omega)) ?_
  refine g0 pcs_ok 10 [] (.go [cN 259278,.b 2,.b 1,cN 8103]) ⟨[(3,.bool true),(5,.ptr 0 0),(8,nI f),(9,.ptr 1 0),(43,fcs p.funcs),(44,nI p.funcs.n),(45,nI f),(74,nI ((p.funcs.f f).lines.n)),(75,iI 0)],[(0,.row 32 (infC (infOf p))),(1,.row 41 (fcC (p.funcs.f f)))],2⟩ ([]) aN ?_
  refine go_loop (fun (k:Nat)=>⟨[(3,.bool true),(5,.ptr 0 0),(8,nI f),(9,.ptr 1 0),(43,fcs p.funcs),(44,nI p.funcs.n),(45,nI f),(74,nI ((p.funcs.f f).lines.n)),(75,nI k)],[(0,.row 32 (infC (infOf p))),(1,.row 41 (fcC (p.funcs.f f)))],2⟩) (fun (k:Nat)=>k≤(p.funcs.f f).lines.n) (fun (k:Nat)=>(p.funcs.f f).lines.n - k) (0:Nat) rfl (by exact Nat.zero_le _) (cvR hE [0,1]) ?_
  intro k hR30
  have hR3:k≤(p.funcs.f f).lines.n:=hR30
  refine g0 pcs_ok 5 [] (.go [cN 2074226,cN 2074227]) ⟨[(3,.bool true),(5,.ptr 0 0),(8,nI f),(9,.ptr 1 0),(43,fcs p.funcs),(44,nI p.funcs.n),(45,nI f),(74,nI ((p.funcs.f f).lines.n)),(75,nI k),(76,.bool (decide ((k:Int) < ((p.funcs.f f).lines.n:Int))))],[(0,.row 32 (infC (infOf p))),(1,.row 41 (fcC (p.funcs.f f)))],2⟩ ([]) aN ?_
  by_cases h4:(k:Int) < ((p.funcs.f f).lines.n:Int)
  ·refine gb 76 true (decide ((k:Int) < ((p.funcs.f f).lines.n:Int))) (decide_eq_true h4) ?_
   refine g0 pcs_ok 19 [] (.go [cN 265501082,.b 4,cN 66375271,.b 3,cN 4148455]) ⟨[(3,.bool true),(5,.ptr 0 0),(8,nI f),(9,.ptr 1 0),(10,nI k),(11,iI (-1)),(12,iI 0),(43,fcs p.funcs),(44,nI p.funcs.n),(45,nI f),(74,nI ((p.funcs.f f).lines.n)),(75,nI k)],[(0,.row 32 (infC (infOf p))),(1,.row 41 (fcC (p.funcs.f f)))],2⟩ ([]) aN ?_
   refine go_loop (fun (c:Nat)=>⟨[(3,.bool true),(5,.ptr 0 0),(8,nI f),(9,.ptr 1 0),(10,nI k),(11,iI (wantP p f k c)),(12,nI c),(43,fcs p.funcs),(44,nI p.funcs.n),(45,nI f),(74,nI ((p.funcs.f f).lines.n)),(75,nI k)],[(0,.row 32 (infC (infOf p))),(1,.row 41 (fcC (p.funcs.f f)))],2⟩) (fun (c:Nat)=>c≤k) (fun (c:Nat)=>k - c) (0:Nat) rfl (by exact Nat.zero_le _) (cvR hE [0,1]) ?_
   intro c hR50
   have hR5:c≤k:=hR50
   refine g0 pcs_ok 7 [] (.go [cN 2124008657,cN 1062004329]) ⟨[(3,.bool true),(5,.ptr 0 0),(8,nI f),(9,.ptr 1 0),(10,nI k),(11,iI (wantP p f k c)),(12,nI c),(43,fcs p.funcs),(44,nI p.funcs.n),(45,nI f),(74,nI ((p.funcs.f f).lines.n)),(75,nI k),(80,.bool (decide ((c:Int) < (k:Int))))],[(0,.row 32 (infC (infOf p))),(1,.row 41 (fcC (p.funcs.f f)))],2⟩ ([]) aN ?_
   by_cases h6:(c:Int) < (k:Int)
   ·refine gb 80 true (decide ((c:Int) < (k:Int))) (decide_eq_true h6) ?_
    refine g0 pcs_ok 14 [] (.op 8496034632 8 [cN 8496034633,.b 5,cN 2124008659]) ⟨[(3,.bool true),(5,.ptr 0 0),(8,nI f),(9,.ptr 1 0),(10,nI k),(11,iI (wantP p f k c)),(12,nI c),(43,fcs p.funcs),(44,nI p.funcs.n),(45,nI f),(74,nI ((p.funcs.f f).lines.n)),(75,nI k),(90,.bool (!decide (((p.funcs.f f).lines.f c).op = 42)))],[(0,.row 32 (infC (infOf p))),(1,.row 41 (fcC (p.funcs.f f)))],2⟩ ([.b (ixB (c:Int) ((p.funcs.f f).lines.n))]) (aD (by omega) aN) ?_
    by_cases h7:((p.funcs.f f).lines.f c).op = 42
    ·refine gb 90 false (!decide (((p.funcs.f f).lines.f c).op = 42)) (ndecF h7) ?_
     refine g0 pcs_ok 21 [] (.go []) ⟨[(3,.bool true),(5,.ptr 0 0),(8,nI f),(9,.ptr 1 0),(10,nI k),(11,iI (wantP p f k c)),(12,nI (c + 1)),(43,fcs p.funcs),(44,nI p.funcs.n),(45,nI f),(74,nI ((p.funcs.f f).lines.n)),(75,nI k)],[(0,.row 32 (infC (infOf p))),(1,.row 41 (fcC (p.funcs.f f)))],2⟩ ([.b (rng (((c + 1):Nat):Int))]) (aR (by omega) (by omega) aN) ?_
     refine go_again ((c + 1)) (by first | (dsimp only; omega) | omega) (by omega) (cvM hE [0,1] ⟨sR,sR,sR,sR,sR,sL (iI (wantP p f k c)) (Le.of_eq (congrArg (AV.int .i64) (by first | exact (want_yes (by omega) (by omega)).symm | exact (want_no (by omega)).symm))),toFR⟩ toHR)
    ·refine gb 90 true (!decide (((p.funcs.f f).lines.f c).op = 42)) (ndec h7) ?_
     refine g0 pcs_ok 13 [] (.go [cN 8496034633,.b 5,cN 2124008659]) ⟨[(3,.bool true),(5,.ptr 0 0),(8,nI f),(9,.ptr 1 0),(10,nI k),(11,iI (wantP p f k c)),(12,nI c),(43,fcs p.funcs),(44,nI p.funcs.n),(45,nI f),(74,nI ((p.funcs.f f).lines.n)),(75,nI k),(101,.bool (decide ((((infOf p).ends.f f).f c) > (k:Int))))],[(0,.row 32 (infC (infOf p))),(1,.row 41 (fcC (p.funcs.f f)))],2⟩ ([.b (ixB (c:Int) (((infOf p).ends.f f).n)),.b (ixB (f:Int) ((infOf p).ends.n))]) (aD (by omega) (aD (by omega) aN)) ?_
     by_cases h8:(((infOf p).ends.f f).f c) > (k:Int)
     ·refine gb 101 true (decide ((((infOf p).ends.f f).f c) > (k:Int))) (decide_eq_true h8) ?_
      refine g0 pcs_ok 11 [] (.go []) ⟨[(3,.bool true),(5,.ptr 0 0),(8,nI f),(9,.ptr 1 0),(10,nI k),(11,nI c),(12,nI (c + 1)),(43,fcs p.funcs),(44,nI p.funcs.n),(45,nI f),(74,nI ((p.funcs.f f).lines.n)),(75,nI k)],[(0,.row 32 (infC (infOf p))),(1,.row 41 (fcC (p.funcs.f f)))],2⟩ ([.b (rng (((c + 1):Nat):Int))]) (aR (by omega) (by omega) aN) ?_
      refine go_again ((c + 1)) (by first | (dsimp only; omega) | omega) (by omega) (cvM hE [0,1] ⟨sR,sR,sR,sR,sR,sL (nI c) (Le.of_eq (congrArg (AV.int .i64) (by first | exact (want_yes (by omega) (by omega)).symm | exact (want_no (by omega)).symm))),toFR⟩ toHR)
     ·refine gb 101 false (decide ((((infOf p).ends.f f).f c) > (k:Int))) (decide_eq_false h8) ?_
      refine g0 pcs_ok 8 [] (.go []) ⟨[(3,.bool true),(5,.ptr 0 0),(8,nI f),(9,.ptr 1 0),(10,nI k),(11,iI (wantP p f k c)),(12,nI (c + 1)),(43,fcs p.funcs),(44,nI p.funcs.n),(45,nI f),(74,nI ((p.funcs.f f).lines.n)),(75,nI k)],[(0,.row 32 (infC (infOf p))),(1,.row 41 (fcC (p.funcs.f f)))],2⟩ ([.b (rng (((c + 1):Nat):Int))]) (aR (by omega) (by omega) aN) ?_
      refine go_again ((c + 1)) (by first | (dsimp only; omega) | omega) (by omega) (cvM hE [0,1] ⟨sR,sR,sR,sR,sR,sL (iI (wantP p f k c)) (Le.of_eq (congrArg (AV.int .i64) (by first | exact (want_yes (by omega) (by omega)).symm | exact (want_no (by omega)).symm))),toFR⟩ toHR)
   ·refine gb 80 false (decide ((c:Int) < (k:Int))) (decide_eq_false h6) ?_
    refine g0 pcs_ok 1 [] (.go [cN 4248017315,cN 1062004329]) ⟨[(3,.bool true),(5,.ptr 0 0),(8,nI f),(9,.ptr 1 0),(10,nI k),(11,iI (wantP p f k c)),(43,fcs p.funcs),(44,nI p.funcs.n),(45,nI f),(74,nI ((p.funcs.f f).lines.n)),(75,nI k)],[(0,.row 32 (infC (infOf p))),(1,.row 41 (fcC (p.funcs.f f)))],2⟩ ([]) aN ?_
    refine go_brk rfl rfl rfl ?_
    refine g0 pcs_ok 13 [] (.go [cN 132750543,.b 3,cN 4148455]) ⟨[(3,.bool true),(5,.ptr 0 0),(8,nI f),(9,.ptr 1 0),(43,fcs p.funcs),(44,nI p.funcs.n),(45,nI f),(74,nI ((p.funcs.f f).lines.n)),(75,nI k),(112,.bool (!decide ((((infOf p).parent.f f).f k) = (wantP p f k c))))],[(0,.row 32 (infC (infOf p))),(1,.row 41 (fcC (p.funcs.f f)))],2⟩ ([.b (ixB (k:Int) (((infOf p).parent.f f).n)),.b (ixB (f:Int) ((infOf p).parent.n))]) (aD (by omega) (aD (by omega) aN)) ?_
    refine gb 112 false (!decide ((((infOf p).parent.f f).f k) = (wantP p f k c))) (ndecF (by have hck:c = k:=(by omega); rw [hck]; exact (hfb.want k (by omega)).symm)) ?_
    refine g0 pcs_ok 7 [] (.go []) ⟨[(3,.bool true),(5,.ptr 0 0),(8,nI f),(9,.ptr 1 0),(43,fcs p.funcs),(44,nI p.funcs.n),(45,nI f),(74,nI ((p.funcs.f f).lines.n)),(75,nI (k + 1))],[(0,.row 32 (infC (infOf p))),(1,.row 41 (fcC (p.funcs.f f)))],2⟩ ([.b (rng (((k + 1):Nat):Int))]) (aR (by omega) (by omega) aN) ?_
    refine go_again ((k + 1)) (by first | (dsimp only; omega) | omega) (by omega) (cvR hE [0,1])
  ·refine gb 76 false (decide ((k:Int) < ((p.funcs.f f).lines.n:Int))) (decide_eq_false h4) ?_
   refine g0 pcs_ok 1 [] (.go [cN 4148453,cN 2074227]) ⟨[(3,.bool true),(5,.ptr 0 0),(43,fcs p.funcs),(44,nI p.funcs.n),(45,nI f)],[(0,.row 32 (infC (infOf p)))],2⟩ ([]) aN ?_
   refine go_brk rfl rfl rfl ?_
   refine g0 pcs_ok 5 [] (.go []) ⟨[(3,.bool true),(5,.ptr 0 0),(43,fcs p.funcs),(44,nI p.funcs.n),(45,nI (f + 1))],[(0,.row 32 (infC (infOf p)))],2⟩ ([.b (rng (((f + 1):Nat):Int))]) (aR (by omega) (by omega) aN) ?_
   refine go_again ((f + 1)) (by first | (dsimp only; omega) | omega) (by omega) (cvR hE [0])
 ·refine gb 46 false (decide ((f:Int) < (p.funcs.n:Int))) (decide_eq_false h2) ?_
  refine g0 pcs_ok 1 [] (.go [cN 8101,cN 4051]) ⟨[(3,.bool true)],[],1⟩ ([]) aN ?_
  refine go_brk rfl rfl rfl ?_
  refine g0 pcs_ok 5 [] (.go [cN 255]) ⟨[(2,.bool true)],[],1⟩ ([]) aN ?_
  refine go_ret rfl ?_
  refine rf ⟨[(2,.bool true)],[],0⟩ [.bool true] (cvR hE []) ?_
  first | exact rfl | (exfalso; omega)
end Go.SL
