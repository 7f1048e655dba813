-- Written by plus.py for this claim.
import Derived.Test.YtpfeebmfihgelaaDoorHLexReadsx0
import Derived.Test.YtpfeebmfihgelaaDoorHLexReadsx2
import Derived.Test.YtpfeebmfihgelaaDoorHLexReadsx5
import Derived.Test.YtpfeebmfihgelaaDoorHLexReadsx6
namespace Go.Proofs.YtpfeebmfihgelaaDoor.HLexReads
open Go.RowKit Go.Proofs.YtpfeebmfihgelaaDoorW.PrintWords Go.Proofs.YtpfeebmfihgelaaDoorW.PrintLast Go.Proofs.YtpfeebmfihgelaaDoorW.PrintMore
attribute [local go_sem] max2_int min2_int max_two min_two max_three min_three max_four min_four   -- for this text's walks alone
set_option linter.unusedVariables false
set_option linter.unusedSimpArgs false

/-! SPLIT -/
set_option maxHeartbeats 4000000 in
set_option maxRecDepth 1000000 in
theorem lex_scanner_piece.pass3 (g : Nat) (w0 w : World) (r : lex_scanner_piece.R) (k : Nat) (s : ByteArray) (at_ fn : Nat) (err : Int) (a' : Act) (w' : World) (hG : GL w0) (hfn : fn ≤ at_) (hlt0 : at_ < s.size)
    (hJ : lex_scanner_piece.J g w0 w r s at_ (fn : Int) 0 ⟨#[]⟩ 0 (fn : Int) err a' w') (h : lex_scanner_piece.l3 k s at_ fn err = some r) :
    ∃ rest, findLabel lex_scanner_piece.c 3 = some (Code.skip.seq rest) ∧ rest.wp Tryd.prog (lex_scanner_piece.Q g w0 w r k) a' w' := by
  obtain ⟨⟨f, rfl⟩, ⟨_, rfl, hI⟩, hB, hK, hle, hbig⟩ := hJ
  unfold lex_scanner_piece.frame
  have HI0 := Aside0.mk hI
  have HB := Aside0.mk hB
  have HK := Aside0.mk hK
  have hu63 := Tryd.underlying122
  obtain ⟨HG0, _⟩ := hI
  have hc_0 := cellS122_0 HG0
  have hc_1 := cellS122_1 HG0
  have hc_2 := cellS122_2 HG0
  have hc_3 := cellS122_3 HG0
  have hc_4 := cellS122_4 HG0
  have hc_5 := cellS122_5 HG0
  have hc_6 := cellS122_6 HG0
  have hc_7 := cellS122_7 HG0
  have hf_0 := blk_frozen HG0 0
  have hf_1 := blk_frozen HG0 1
  have hf_2 := blk_frozen HG0 2
  have hf_3 := blk_frozen HG0 3
  have hf_4 := blk_frozen HG0 4
  have hf_5 := blk_frozen HG0 5
  have hf_6 := blk_frozen HG0 6
  have hf_7 := blk_frozen HG0 7
  clear HG0 hB hK
  obtain ⟨r1, r2, r3, r4, r5, r6, r7, r8, r9⟩ := r
  have hlt := Lib.hid hlt0
  clear hlt0
  refine ⟨_, rfl, ?_⟩
  cases k with
  | zero => exact absurd h (by simp [lex_scanner_piece.l3])
  | succ k =>
  simp only [lex_scanner_piece.l3] at h
  by_cases hl : at_ + 1 < s.size
  case neg =>
    rw [if_neg hl] at h
    have HL := Lib.hid hl
    clear hl
    have HF := Lib.hid h
    clear h
    go_wp2_with (first | (go_at_call 95; (with_reducible refine (lex_scanner_piece.next_end2 g s (at_ + 1) ((at_ : Int) + 1) _ rfl HL.out ?n1 ?n2).mono ?_); (case n1 => simp [go_sem, hc_0]); (case n2 => simp [go_sem, hc_1]); rintro e w1 ⟨rfl, ⟨nd, rfl⟩⟩) | (go_at_call 101; (with_reducible refine (lex_scanner_named.calls g s ((at_ : Int) + 1) (fn : Int) 3 ⟨#[]⟩ 0 (fn : Int) err r1 r2 r3 r4 r5 r6 r7 r8 r9 w0 _ ?i1 ?i2 hG ?i3).mono ?_); (case i1 => exact (by repeat (first | (with_reducible first | exact HI0.out | apply IsS122.alloc | apply IsS122.drewN | apply IsS122.drew | apply IsS122.set_0 | apply IsS122.set_1 | apply IsS122.set_2 | apply IsS122.set_3 | apply IsS122.set_4 | apply IsS122.set_5 | apply IsS122.set_6 | apply IsS122.set_7) | exact HI0.out))); (case i2 => exact (by repeat (first | (with_reducible first | exact HB.out | apply below_alloc | apply pw_below_drewN | apply below_drew1 | refine below_set ?_ (IsS122.ge HI0.out)) | exact HB.out))); (case i3 => exact HF.out); rintro e w1 ⟨rfl, hI3, hB3, hK3⟩))
    go_ret
    have HK3 := KeepBut.trans (w1 := _) (by repeat (first | (with_reducible first | exact HK.out | apply KeepBut.set_ | apply keep_drewN | apply keep_drew | apply keep_alloc) | exact HK.out)) hK3 (.inl rfl)
    clear HI0 HB
    have HI0 := Aside0.mk hI3
    have HB := Aside0.mk hB3
    have HK := Aside0.mk HK3
    exact ⟨rfl, (by repeat (first | (with_reducible first | exact HI0.out | apply IsS122.alloc | apply IsS122.drewN | apply IsS122.drew | apply IsS122.set_0 | apply IsS122.set_1 | apply IsS122.set_2 | apply IsS122.set_3 | apply IsS122.set_4 | apply IsS122.set_5 | apply IsS122.set_6 | apply IsS122.set_7) | exact HI0.out)), (by repeat (first | (with_reducible first | exact HB.out | apply below_alloc | apply pw_below_drewN | apply below_drew1 | refine below_set ?_ (IsS122.ge HI0.out)) | exact HB.out)), (by repeat (first | (with_reducible first | exact HK.out | apply KeepBut.set_ | apply keep_drewN | apply keep_drew | apply keep_alloc) | exact HK.out))⟩
  rw [if_pos hl] at h
  have HL := Lib.hid hl
  clear hl
  obtain ⟨c, hcv⟩ : ∃ c, c = bt s ((at_ : Int) + 1) := ⟨_, rfl⟩
  rw [← hcv] at h
  have HCV := Lib.hid hcv.symm
  clear hcv
  cases hs : lex_scanner_piece.great c
  case true =>
    rw [if_pos (by rw [hs]; rfl)] at h
    have HGR := Lib.hid (show lex_great.f c = some true by rw [lex_scanner_piece.great_f, hs])
    clear hs
    have HF := Lib.hid h
    clear h
    go_wp2_with (first | (go_at_call 95; (with_reducible refine (lex_scanner_piece.next_more2 g s (at_ + 1) ((at_ : Int) + 1) c _ rfl HCV.out HL.out ?n1 ?n2).mono ?_); (case n1 => simp [go_sem, hc_0]); (case n2 => simp [go_sem, hc_1]); rintro e w1 ⟨rfl, ⟨nd, rfl⟩⟩) | (go_at_call 98; (with_reducible refine (lex_great.calls _ true _ HGR.out).mono ?_); rintro e w1 ⟨rfl, ⟨nd, rfl⟩⟩))
    go_step3
    exact ⟨_, Nat.lt_succ_self _, s, (at_ + 1), (fn : Int), 0, ⟨#[]⟩, 0, (fn : Int), err, ⟨lex_scanner_piece.frame_of _ _ rfl, ⟨(at_ : Int) + 1, rfl, (by repeat (first | (with_reducible first | exact HI0.out | apply IsS122.alloc | apply IsS122.drewN | apply IsS122.drew | apply IsS122.set_0 | apply IsS122.set_1 | apply IsS122.set_2 | apply IsS122.set_3 | apply IsS122.set_4 | apply IsS122.set_5 | apply IsS122.set_6 | apply IsS122.set_7) | exact HI0.out))⟩, (by repeat (first | (with_reducible first | exact HB.out | apply below_alloc | apply pw_below_drewN | apply below_drew1 | refine below_set ?_ (IsS122.ge HI0.out)) | exact HB.out)), (by repeat (first | (with_reducible first | exact HK.out | apply KeepBut.set_ | apply keep_drewN | apply keep_drew | apply keep_alloc) | exact HK.out)), hlt.out, hbig⟩, .inr (.inr ⟨fn, rfl, rfl, rfl, rfl, rfl, Nat.le_succ_of_le hfn, HL.out, .inr (.inl ⟨rfl, HF.out⟩)⟩)⟩
  have HGR := Lib.hid (show lex_great.f c = some false by rw [lex_scanner_piece.great_f, hs])
  cases hn : lex_scanner_piece.num c
  case true =>
    rw [if_pos (by rw [hs, hn]; rfl)] at h
    have HNU := Lib.hid (show lex_num.f c = some true by rw [lex_scanner_piece.num_f, hn])
    clear hs hn
    have HF := Lib.hid h
    clear h
    go_wp2_with (first | (go_at_call 95; (with_reducible refine (lex_scanner_piece.next_more2 g s (at_ + 1) ((at_ : Int) + 1) c _ rfl HCV.out HL.out ?n1 ?n2).mono ?_); (case n1 => simp [go_sem, hc_0]); (case n2 => simp [go_sem, hc_1]); rintro e w1 ⟨rfl, ⟨nd, rfl⟩⟩) | (go_at_call 98; (with_reducible refine (lex_great.calls _ false _ HGR.out).mono ?_); rintro e w1 ⟨rfl, ⟨nd, rfl⟩⟩) | (go_at_call 99; (with_reducible refine (lex_num.calls _ true _ HNU.out).mono ?_); rintro e w1 ⟨rfl, ⟨nd, rfl⟩⟩))
    go_step3
    exact ⟨_, Nat.lt_succ_self _, s, (at_ + 1), (fn : Int), 0, ⟨#[]⟩, 0, (fn : Int), err, ⟨lex_scanner_piece.frame_of _ _ rfl, ⟨(at_ : Int) + 1, rfl, (by repeat (first | (with_reducible first | exact HI0.out | apply IsS122.alloc | apply IsS122.drewN | apply IsS122.drew | apply IsS122.set_0 | apply IsS122.set_1 | apply IsS122.set_2 | apply IsS122.set_3 | apply IsS122.set_4 | apply IsS122.set_5 | apply IsS122.set_6 | apply IsS122.set_7) | exact HI0.out))⟩, (by repeat (first | (with_reducible first | exact HB.out | apply below_alloc | apply pw_below_drewN | apply below_drew1 | refine below_set ?_ (IsS122.ge HI0.out)) | exact HB.out)), (by repeat (first | (with_reducible first | exact HK.out | apply KeepBut.set_ | apply keep_drewN | apply keep_drew | apply keep_alloc) | exact HK.out)), hlt.out, hbig⟩, .inr (.inr ⟨fn, rfl, rfl, rfl, rfl, rfl, Nat.le_succ_of_le hfn, HL.out, .inr (.inl ⟨rfl, HF.out⟩)⟩)⟩
  have HNU := Lib.hid (show lex_num.f c = some false by rw [lex_scanner_piece.num_f, hn])
  cases h9 : (c == 95)
  case true =>
    rw [if_pos (by rw [hs, hn, h9]; rfl)] at h
    clear hs hn
    have HF := Lib.hid h
    clear h
    go_wp2_with (first | (go_at_call 95; (with_reducible refine (lex_scanner_piece.next_more2 g s (at_ + 1) ((at_ : Int) + 1) c _ rfl HCV.out HL.out ?n1 ?n2).mono ?_); (case n1 => simp [go_sem, hc_0]); (case n2 => simp [go_sem, hc_1]); rintro e w1 ⟨rfl, ⟨nd, rfl⟩⟩) | (go_at_call 98; (with_reducible refine (lex_great.calls _ false _ HGR.out).mono ?_); rintro e w1 ⟨rfl, ⟨nd, rfl⟩⟩) | (go_at_call 99; (with_reducible refine (lex_num.calls _ false _ HNU.out).mono ?_); rintro e w1 ⟨rfl, ⟨nd, rfl⟩⟩))
    go_step3
    exact ⟨_, Nat.lt_succ_self _, s, (at_ + 1), (fn : Int), 0, ⟨#[]⟩, 0, (fn : Int), err, ⟨lex_scanner_piece.frame_of _ _ rfl, ⟨(at_ : Int) + 1, rfl, (by repeat (first | (with_reducible first | exact HI0.out | apply IsS122.alloc | apply IsS122.drewN | apply IsS122.drew | apply IsS122.set_0 | apply IsS122.set_1 | apply IsS122.set_2 | apply IsS122.set_3 | apply IsS122.set_4 | apply IsS122.set_5 | apply IsS122.set_6 | apply IsS122.set_7) | exact HI0.out))⟩, (by repeat (first | (with_reducible first | exact HB.out | apply below_alloc | apply pw_below_drewN | apply below_drew1 | refine below_set ?_ (IsS122.ge HI0.out)) | exact HB.out)), (by repeat (first | (with_reducible first | exact HK.out | apply KeepBut.set_ | apply keep_drewN | apply keep_drew | apply keep_alloc) | exact HK.out)), hlt.out, hbig⟩, .inr (.inr ⟨fn, rfl, rfl, rfl, rfl, rfl, Nat.le_succ_of_le hfn, HL.out, .inr (.inl ⟨rfl, HF.out⟩)⟩)⟩
  rw [if_neg (by rw [hs, hn, h9]; simp)] at h
  clear hs hn
  have HF := Lib.hid h
  clear h
  go_wp2_with (first | (go_at_call 95; (with_reducible refine (lex_scanner_piece.next_more2 g s (at_ + 1) ((at_ : Int) + 1) c _ rfl HCV.out HL.out ?n1 ?n2).mono ?_); (case n1 => simp [go_sem, hc_0]); (case n2 => simp [go_sem, hc_1]); rintro e w1 ⟨rfl, ⟨nd, rfl⟩⟩) | (go_at_call 98; (with_reducible refine (lex_great.calls _ false _ HGR.out).mono ?_); rintro e w1 ⟨rfl, ⟨nd, rfl⟩⟩) | (go_at_call 99; (with_reducible refine (lex_num.calls _ false _ HNU.out).mono ?_); rintro e w1 ⟨rfl, ⟨nd, rfl⟩⟩) | (go_at_call 101; (with_reducible refine (lex_scanner_named.calls g s ((at_ : Int) + 1) (fn : Int) 3 ⟨#[]⟩ 0 (fn : Int) err r1 r2 r3 r4 r5 r6 r7 r8 r9 w0 _ ?i1 ?i2 hG ?i3).mono ?_); (case i1 => exact (by repeat (first | (with_reducible first | exact HI0.out | apply IsS122.alloc | apply IsS122.drewN | apply IsS122.drew | apply IsS122.set_0 | apply IsS122.set_1 | apply IsS122.set_2 | apply IsS122.set_3 | apply IsS122.set_4 | apply IsS122.set_5 | apply IsS122.set_6 | apply IsS122.set_7) | exact HI0.out))); (case i2 => exact (by repeat (first | (with_reducible first | exact HB.out | apply below_alloc | apply pw_below_drewN | apply below_drew1 | refine below_set ?_ (IsS122.ge HI0.out)) | exact HB.out))); (case i3 => exact HF.out); rintro e w1 ⟨rfl, hI3, hB3, hK3⟩))
  go_ret
  have HK3 := KeepBut.trans (w1 := _) (by repeat (first | (with_reducible first | exact HK.out | apply KeepBut.set_ | apply keep_drewN | apply keep_drew | apply keep_alloc) | exact HK.out)) hK3 (.inl rfl)
  clear HI0 HB
  have HI0 := Aside0.mk hI3
  have HB := Aside0.mk hB3
  have HK := Aside0.mk HK3
  exact ⟨rfl, (by repeat (first | (with_reducible first | exact HI0.out | apply IsS122.alloc | apply IsS122.drewN | apply IsS122.drew | apply IsS122.set_0 | apply IsS122.set_1 | apply IsS122.set_2 | apply IsS122.set_3 | apply IsS122.set_4 | apply IsS122.set_5 | apply IsS122.set_6 | apply IsS122.set_7) | exact HI0.out)), (by repeat (first | (with_reducible first | exact HB.out | apply below_alloc | apply pw_below_drewN | apply below_drew1 | refine below_set ?_ (IsS122.ge HI0.out)) | exact HB.out)), (by repeat (first | (with_reducible first | exact HK.out | apply KeepBut.set_ | apply keep_drewN | apply keep_drew | apply keep_alloc) | exact HK.out))⟩
end Go.Proofs.YtpfeebmfihgelaaDoor.HLexReads
