-- Written by plus.py for this claim.
import Derived.Test.YtpfeebmfihgelaaDoorHLexReadsx0
import Derived.Test.YtpfeebmfihgelaaDoorHLexReadsx5
import Derived.Test.YtpfeebmfihgelaaDoorHLexReadsx6
import Derived.Test.YtpfeebmfihgelaaDoorHLexReadsx8
namespace Go.Proofs.YtpfeebmfihgelaaDoor.HLexReads
open Go.RowKit Go.Proofs.YtpfeebmfihgelaaDoorW.PrintWords Go.Proofs.YtpfeebmfihgelaaDoorW.PrintLast Go.Proofs.YtpfeebmfihgelaaDoorW.PrintMore
attribute [local go_sem] max2_int min2_int max_two min_two max_three min_three max_four min_four   -- for this text's walks alone
set_option linter.unusedVariables false
set_option linter.unusedSimpArgs false

/-! SPLIT -/
set_option maxHeartbeats 4000000 in
set_option maxRecDepth 1000000 in
theorem lex_scanner_piece.pass0 (g : Nat) (w0 w : World) (r : lex_scanner_piece.R) (k : Nat) (s : ByteArray) (at_ : Nat) (fr K : Int) (S : ByteArray) (N pos err : Int) (a' : Act) (w' : World)
    (hJ : lex_scanner_piece.J g w0 w r s at_ fr K S N pos err a' w') (h : lex_scanner_piece.l0 k s at_ fr K S N pos err = some r) :
    ∃ rest, findLabel lex_scanner_piece.c 0 = some (Code.skip.seq rest) ∧ rest.wp Tryd.prog (lex_scanner_piece.Q g w0 w r k) a' w' := by
  obtain ⟨⟨f, rfl⟩, ⟨_, rfl, hI⟩, hB, hK, hle, hbig⟩ := hJ
  unfold lex_scanner_piece.frame
  have HI0 := Aside0.mk hI
  have HB := Aside0.mk hB
  have HK := Aside0.mk hK
  have hu63 := Tryd.underlying122
  obtain ⟨HG0, _⟩ := hI
  have hc_0 := cellS122_0 HG0
  have hc_1 := cellS122_1 HG0
  have hc_2 := cellS122_2 HG0
  have hc_3 := cellS122_3 HG0
  have hc_4 := cellS122_4 HG0
  have hc_5 := cellS122_5 HG0
  have hc_6 := cellS122_6 HG0
  have hc_7 := cellS122_7 HG0
  have hf_0 := blk_frozen HG0 0
  have hf_1 := blk_frozen HG0 1
  have hf_2 := blk_frozen HG0 2
  have hf_3 := blk_frozen HG0 3
  have hf_4 := blk_frozen HG0 4
  have hf_5 := blk_frozen HG0 5
  have hf_6 := blk_frozen HG0 6
  have hf_7 := blk_frozen HG0 7
  clear HG0 hB hK
  cases k with
  | zero => exact absurd h (by simp [lex_scanner_piece.l0])
  | succ k =>
  simp only [lex_scanner_piece.l0] at h
  by_cases hlt : at_ < s.size
  case neg =>
    rw [if_neg hlt] at h
    obtain rfl := Option.some.inj h
    have HLT := Lib.hid hlt
    clear h hlt
    refine ⟨_, rfl, ?_⟩
    go_wp2_with (go_at_call 95; (with_reducible refine (lex_scanner_piece.next_end g s at_ _ ?n1 ?n2 HLT.out).mono ?_); (case n1 => simp [go_sem, hc_0]); (case n2 => simp [go_sem, hc_1]); rintro e w1 ⟨rfl, ⟨nd, rfl⟩⟩)
    go_ret
    exact ⟨rfl, (by repeat (first | (with_reducible first | exact HI0.out | apply IsS122.alloc | apply IsS122.drewN | apply IsS122.drew | apply IsS122.set_0 | apply IsS122.set_1 | apply IsS122.set_2 | apply IsS122.set_3 | apply IsS122.set_4 | apply IsS122.set_5 | apply IsS122.set_6 | apply IsS122.set_7) | exact HI0.out)), (by repeat (first | (with_reducible first | exact HB.out | apply below_alloc | apply pw_below_drewN | apply below_drew1 | refine below_set ?_ (IsS122.ge HI0.out)) | exact HB.out)), (by repeat (first | (with_reducible first | exact HK.out | apply KeepBut.set_ | apply keep_drewN | apply keep_drew | apply keep_alloc) | exact HK.out))⟩
  rw [if_pos hlt] at h
  have HLT := Lib.hid hlt
  clear hlt
  cases hb : lex_scanner_piece.blank (bt s at_)
  case true =>
    rw [if_pos hb] at h
    have HF := Lib.hid h
    have HBL := Lib.hid (show lex_blank.f (bt s at_) = some true by rw [lex_scanner_piece.blank_f, hb])
    clear h hb
    refine ⟨_, rfl, ?_⟩
    go_wp2_with (first | (go_at_call 95; (with_reducible refine (lex_scanner_piece.next_more g s at_ _ ?n1 ?n2 HLT.out).mono ?_); (case n1 => simp [go_sem, hc_0]); (case n2 => simp [go_sem, hc_1]); rintro e w1 ⟨rfl, ⟨nd, rfl⟩⟩) | (go_at_call 96; (with_reducible refine (lex_blank.calls _ true _ HBL.out).mono ?_); rintro e w1 ⟨rfl, ⟨nd, rfl⟩⟩))
    go_step3
    exact ⟨_, Nat.lt_succ_self _, s, (at_ + 1), fr, K, S, N, pos, err, ⟨lex_scanner_piece.frame_of _ _ rfl, ⟨(at_ : Int) + 1, rfl, (by repeat (first | (with_reducible first | exact HI0.out | apply IsS122.alloc | apply IsS122.drewN | apply IsS122.drew | apply IsS122.set_0 | apply IsS122.set_1 | apply IsS122.set_2 | apply IsS122.set_3 | apply IsS122.set_4 | apply IsS122.set_5 | apply IsS122.set_6 | apply IsS122.set_7) | exact HI0.out))⟩, (by repeat (first | (with_reducible first | exact HB.out | apply below_alloc | apply pw_below_drewN | apply below_drew1 | refine below_set ?_ (IsS122.ge HI0.out)) | exact HB.out)), (by repeat (first | (with_reducible first | exact HK.out | apply KeepBut.set_ | apply keep_drewN | apply keep_drew | apply keep_alloc) | exact HK.out)), HLT.out, hbig⟩, .inl ⟨rfl, HF.out⟩⟩
  rw [if_neg (by rw [hb]; simp)] at h
  have HBL := Lib.hid (show lex_blank.f (bt s at_) = some false by rw [lex_scanner_piece.blank_f, hb])
  clear hb
  by_cases hc : bt s at_ = 35
  case pos =>
    rw [if_pos hc] at h
    have HF := Lib.hid h
    have c2b0 : (bt s at_ == 35) = true := beq_iff_eq.mpr hc
    clear h hc
    refine ⟨_, rfl, ?_⟩
    go_wp2_with (first | (go_at_call 95; (with_reducible refine (lex_scanner_piece.next_more g s at_ _ ?n1 ?n2 HLT.out).mono ?_); (case n1 => simp [go_sem, hc_0]); (case n2 => simp [go_sem, hc_1]); rintro e w1 ⟨rfl, ⟨nd, rfl⟩⟩) | (go_at_call 96; (with_reducible refine (lex_blank.calls _ false _ HBL.out).mono ?_); rintro e w1 ⟨rfl, ⟨nd, rfl⟩⟩))
    go_step3
    exact ⟨_, Nat.lt_succ_self _, s, at_, fr, K, S, N, pos, err, ⟨lex_scanner_piece.frame_of _ _ rfl, ⟨(at_ : Int), rfl, (by repeat (first | (with_reducible first | exact HI0.out | apply IsS122.alloc | apply IsS122.drewN | apply IsS122.drew | apply IsS122.set_0 | apply IsS122.set_1 | apply IsS122.set_2 | apply IsS122.set_3 | apply IsS122.set_4 | apply IsS122.set_5 | apply IsS122.set_6 | apply IsS122.set_7) | exact HI0.out))⟩, (by repeat (first | (with_reducible first | exact HB.out | apply below_alloc | apply pw_below_drewN | apply below_drew1 | refine below_set ?_ (IsS122.ge HI0.out)) | exact HB.out)), (by repeat (first | (with_reducible first | exact HK.out | apply KeepBut.set_ | apply keep_drewN | apply keep_drew | apply keep_alloc) | exact HK.out)), hle, hbig⟩, .inr (.inl ⟨rfl, HF.out⟩)⟩
  rw [if_neg hc] at h
  have c2b0 : (bt s at_ == 35) = false := beq_eq_false_iff_ne.mpr hc
  clear hc
  cases hs : lex_scanner_piece.small (bt s at_)
  case true =>
    rw [if_pos hs] at h
    have HF := Lib.hid h
    have HSM := Lib.hid (show lex_small.f (bt s at_) = some true by rw [lex_scanner_piece.small_f, hs])
    clear h hs
    refine ⟨_, rfl, ?_⟩
    go_wp2_with (first | (go_at_call 95; (with_reducible refine (lex_scanner_piece.next_more g s at_ _ ?n1 ?n2 HLT.out).mono ?_); (case n1 => simp [go_sem, hc_0]); (case n2 => simp [go_sem, hc_1]); rintro e w1 ⟨rfl, ⟨nd, rfl⟩⟩) | (go_at_call 96; (with_reducible refine (lex_blank.calls _ false _ HBL.out).mono ?_); rintro e w1 ⟨rfl, ⟨nd, rfl⟩⟩) | (go_at_call 97; (with_reducible refine (lex_small.calls _ true _ HSM.out).mono ?_); rintro e w1 ⟨rfl, ⟨nd, rfl⟩⟩))
    go_step3
    exact ⟨_, Nat.lt_succ_self _, s, at_, (at_ : Int), 0, ⟨#[]⟩, 0, (at_ : Int), err, ⟨lex_scanner_piece.frame_of _ _ rfl, ⟨(at_ : Int), rfl, (by repeat (first | (with_reducible first | exact HI0.out | apply IsS122.alloc | apply IsS122.drewN | apply IsS122.drew | apply IsS122.set_0 | apply IsS122.set_1 | apply IsS122.set_2 | apply IsS122.set_3 | apply IsS122.set_4 | apply IsS122.set_5 | apply IsS122.set_6 | apply IsS122.set_7) | exact HI0.out))⟩, (by repeat (first | (with_reducible first | exact HB.out | apply below_alloc | apply pw_below_drewN | apply below_drew1 | refine below_set ?_ (IsS122.ge HI0.out)) | exact HB.out)), (by repeat (first | (with_reducible first | exact HK.out | apply KeepBut.set_ | apply keep_drewN | apply keep_drew | apply keep_alloc) | exact HK.out)), hle, hbig⟩, .inr (.inr ⟨at_, rfl, rfl, rfl, rfl, rfl, Nat.le_refl _, HLT.out, .inl ⟨rfl, HF.out⟩⟩)⟩
  rw [if_neg (by rw [hs]; simp)] at h
  have HSM := Lib.hid (show lex_small.f (bt s at_) = some false by rw [lex_scanner_piece.small_f, hs])
  clear hs
  cases hs : lex_scanner_piece.great (bt s at_)
  case true =>
    rw [if_pos hs] at h
    have HF := Lib.hid h
    have HGR := Lib.hid (show lex_great.f (bt s at_) = some true by rw [lex_scanner_piece.great_f, hs])
    clear h hs
    refine ⟨_, rfl, ?_⟩
    go_wp2_with (first | (go_at_call 95; (with_reducible refine (lex_scanner_piece.next_more g s at_ _ ?n1 ?n2 HLT.out).mono ?_); (case n1 => simp [go_sem, hc_0]); (case n2 => simp [go_sem, hc_1]); rintro e w1 ⟨rfl, ⟨nd, rfl⟩⟩) | (go_at_call 96; (with_reducible refine (lex_blank.calls _ false _ HBL.out).mono ?_); rintro e w1 ⟨rfl, ⟨nd, rfl⟩⟩) | (go_at_call 97; (with_reducible refine (lex_small.calls _ false _ HSM.out).mono ?_); rintro e w1 ⟨rfl, ⟨nd, rfl⟩⟩) | (go_at_call 98; (with_reducible refine (lex_great.calls _ true _ HGR.out).mono ?_); rintro e w1 ⟨rfl, ⟨nd, rfl⟩⟩))
    go_step3
    exact ⟨_, Nat.lt_succ_self _, s, at_, (at_ : Int), 0, ⟨#[]⟩, 0, (at_ : Int), err, ⟨lex_scanner_piece.frame_of _ _ rfl, ⟨(at_ : Int), rfl, (by repeat (first | (with_reducible first | exact HI0.out | apply IsS122.alloc | apply IsS122.drewN | apply IsS122.drew | apply IsS122.set_0 | apply IsS122.set_1 | apply IsS122.set_2 | apply IsS122.set_3 | apply IsS122.set_4 | apply IsS122.set_5 | apply IsS122.set_6 | apply IsS122.set_7) | exact HI0.out))⟩, (by repeat (first | (with_reducible first | exact HB.out | apply below_alloc | apply pw_below_drewN | apply below_drew1 | refine below_set ?_ (IsS122.ge HI0.out)) | exact HB.out)), (by repeat (first | (with_reducible first | exact HK.out | apply KeepBut.set_ | apply keep_drewN | apply keep_drew | apply keep_alloc) | exact HK.out)), hle, hbig⟩, .inr (.inr ⟨at_, rfl, rfl, rfl, rfl, rfl, Nat.le_refl _, HLT.out, .inr (.inl ⟨rfl, HF.out⟩)⟩)⟩
  rw [if_neg (by rw [hs]; simp)] at h
  have HGR := Lib.hid (show lex_great.f (bt s at_) = some false by rw [lex_scanner_piece.great_f, hs])
  clear hs
  cases hs : lex_scanner_piece.num (bt s at_)
  case true =>
    rw [if_pos hs] at h
    have HF := Lib.hid h
    have HNU := Lib.hid (show lex_num.f (bt s at_) = some true by rw [lex_scanner_piece.num_f, hs])
    clear h hs
    refine ⟨_, rfl, ?_⟩
    go_wp2_with (first | (go_at_call 95; (with_reducible refine (lex_scanner_piece.next_more g s at_ _ ?n1 ?n2 HLT.out).mono ?_); (case n1 => simp [go_sem, hc_0]); (case n2 => simp [go_sem, hc_1]); rintro e w1 ⟨rfl, ⟨nd, rfl⟩⟩) | (go_at_call 96; (with_reducible refine (lex_blank.calls _ false _ HBL.out).mono ?_); rintro e w1 ⟨rfl, ⟨nd, rfl⟩⟩) | (go_at_call 97; (with_reducible refine (lex_small.calls _ false _ HSM.out).mono ?_); rintro e w1 ⟨rfl, ⟨nd, rfl⟩⟩) | (go_at_call 98; (with_reducible refine (lex_great.calls _ false _ HGR.out).mono ?_); rintro e w1 ⟨rfl, ⟨nd, rfl⟩⟩) | (go_at_call 99; (with_reducible refine (lex_num.calls _ true _ HNU.out).mono ?_); rintro e w1 ⟨rfl, ⟨nd, rfl⟩⟩))
    go_step3
    exact ⟨_, Nat.lt_succ_self _, s, at_, (at_ : Int), 0, ⟨#[]⟩, 0, (at_ : Int), err, ⟨lex_scanner_piece.frame_of _ _ rfl, ⟨(at_ : Int), rfl, (by repeat (first | (with_reducible first | exact HI0.out | apply IsS122.alloc | apply IsS122.drewN | apply IsS122.drew | apply IsS122.set_0 | apply IsS122.set_1 | apply IsS122.set_2 | apply IsS122.set_3 | apply IsS122.set_4 | apply IsS122.set_5 | apply IsS122.set_6 | apply IsS122.set_7) | exact HI0.out))⟩, (by repeat (first | (with_reducible first | exact HB.out | apply below_alloc | apply pw_below_drewN | apply below_drew1 | refine below_set ?_ (IsS122.ge HI0.out)) | exact HB.out)), (by repeat (first | (with_reducible first | exact HK.out | apply KeepBut.set_ | apply keep_drewN | apply keep_drew | apply keep_alloc) | exact HK.out)), hle, hbig⟩, .inr (.inr ⟨at_, rfl, rfl, rfl, rfl, rfl, Nat.le_refl _, HLT.out, .inr (.inr ⟨rfl, HF.out⟩)⟩)⟩
  rw [if_neg (by rw [hs]; simp)] at h
  have HNU := Lib.hid (show lex_num.f (bt s at_) = some false by rw [lex_scanner_piece.num_f, hs])
  clear hs
  obtain ⟨ix, hix⟩ : ∃ ix : Int, ix = Lib.indexByte (⟨#[58, 59, 124, 40, 41, 63, 42, 43, 61, 44]⟩ : ByteArray).data.toList (bt s at_).toNat.toUInt8 := ⟨_, rfl⟩
  have hsg : lex_scanner_piece.sign (bt s at_) = decide (0 ≤ ix) := by rw [hix]; rfl
  have HIX := Lib.hid (show strings_IndexByte.f (⟨#[58, 59, 124, 40, 41, 63, 42, 43, 61, 44]⟩ : ByteArray) (bt s at_) = some ix by rw [hix]; rfl)
  clear hix
  rw [hsg] at h
  clear hsg
  by_cases hi : 0 ≤ ix
  case neg =>
    have hi2 : decide (0 ≤ ix) = false := decide_eq_false hi
    rw [hi2, if_neg (by simp)] at h
    obtain rfl := Option.some.inj h
    clear h hi
    refine ⟨_, rfl, ?_⟩
    go_wp2_with (first | (go_at_call 95; (with_reducible refine (lex_scanner_piece.next_more g s at_ _ ?n1 ?n2 HLT.out).mono ?_); (case n1 => simp [go_sem, hc_0]); (case n2 => simp [go_sem, hc_1]); rintro e w1 ⟨rfl, ⟨nd, rfl⟩⟩) | (go_at_call 96; (with_reducible refine (lex_blank.calls _ false _ HBL.out).mono ?_); rintro e w1 ⟨rfl, ⟨nd, rfl⟩⟩) | (go_at_call 97; (with_reducible refine (lex_small.calls _ false _ HSM.out).mono ?_); rintro e w1 ⟨rfl, ⟨nd, rfl⟩⟩) | (go_at_call 98; (with_reducible refine (lex_great.calls _ false _ HGR.out).mono ?_); rintro e w1 ⟨rfl, ⟨nd, rfl⟩⟩) | (go_at_call 99; (with_reducible refine (lex_num.calls _ false _ HNU.out).mono ?_); rintro e w1 ⟨rfl, ⟨nd, rfl⟩⟩) | (go_at_call 100; (with_reducible refine (strings_IndexByte.calls _ _ _ _ HIX.out).mono ?_); rintro e w1 ⟨rfl, ⟨nd, rfl⟩⟩))
    go_ret
    exact ⟨rfl, (by repeat (first | (with_reducible first | exact HI0.out | apply IsS122.alloc | apply IsS122.drewN | apply IsS122.drew | apply IsS122.set_0 | apply IsS122.set_1 | apply IsS122.set_2 | apply IsS122.set_3 | apply IsS122.set_4 | apply IsS122.set_5 | apply IsS122.set_6 | apply IsS122.set_7) | exact HI0.out)), (by repeat (first | (with_reducible first | exact HB.out | apply below_alloc | apply pw_below_drewN | apply below_drew1 | refine below_set ?_ (IsS122.ge HI0.out)) | exact HB.out)), (by repeat (first | (with_reducible first | exact HK.out | apply KeepBut.set_ | apply keep_drewN | apply keep_drew | apply keep_alloc) | exact HK.out))⟩
  have hi2 : decide (0 ≤ ix) = true := decide_eq_true hi
  rw [hi2, if_pos rfl] at h
  obtain rfl := Option.some.inj h
  exact lex_scanner_piece.pass0s g w0 w (k + 1) s at_ fr K S N pos err f w' ix hle hbig HI0 HB HK HLT HBL c2b0 HSM HGR HNU HIX hi2

end Go.Proofs.YtpfeebmfihgelaaDoor.HLexReads
