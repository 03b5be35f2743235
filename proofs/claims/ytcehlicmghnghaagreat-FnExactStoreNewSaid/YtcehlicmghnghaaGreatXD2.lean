/- What a call comes to. -/
import Derived.Test.YtcehlicmghnghaaGreatXD1
namespace Go.Proofs.YtcehlicmghnghaaGreat.V
open Go Go.Proofs Go.RowKit
set_option maxRecDepth 100000
set_option maxHeartbeats 2000000 in
theorem law_laws_heldItemS {x0 : List TItem} {x1 : Int} {r : Int} (hF : F_laws_heldItemS x0 x1 = some r) : PCalls Tryz.prog 90 [.lst false 9 (fl (enc_TItem false) x0) x0.length, .int .i64 x1] (.int .i64 r) := by
 refine PCalls.of_r k_laws_heldItemS rfl ?_
 unfold F_laws_heldItemS at hF
 refine RW.sreg (rl.run 1 rfl (rl.done (RW.seq (RW.sreg (rl.run 1 rfl (rl.done ?_))))))
 obtain ⟨y15, ey15, h2⟩ := bindS hF
 refine RW.cutq (σ := Int) (fun y2 => [(1, .int .i64 y2)]) (fun y2 => []) (fun y => y15 = .inr y) (fun _ _ _ _ g h => RW.gh g h) ?_ ?_
 ·refine RW.blk ?_
  refine RW.iter (σ := Int × Int) ey15 (fun s1 => [(0, .lst false 9 (fl (enc_TItem false) x0) x0.length), (1, .int .i64 s1.1), (5, .int .i64 s1.2)]) (fun s1 => []) (Gh.ren0 [] .nil rfl (.cons rfl (.dat (ek_TItem.rlst)) (.cons rfl (.dat .int) (.cons rfl (.dat .int) .nil)))) (fun s1 B o hS1 hB1 hE1 => ?_)
  unfold S_laws_heldItemS_1 at hS1
  refine RW.seq (RW.sreg (rl.run 3 rfl ?_))
  refine rl.gen rfl rfl fun b hb => ?_
  cases b
  ·have h3 := iteBF hS1 hb
   refine rl.done (RW.cond_f rfl (RW.exit (blkA_eq ?_)))
   cases h3
   exact ⟨_, (hE1 _ rfl).symm, (Gh.ren0 [] .nil rfl (.cons rfl (.dat .int) .nil))⟩
  ·have h4 := iteBT hS1 hb
   refine rl.done (RW.cond_t rfl (RW.skip (RW.seq (RW.blk (RW.seq (RW.sreg (rl.run 2 rfl ?_)))))))
   obtain ⟨v3, e3, h5⟩ := bindS h4
   refine rl.op (x_ia_lst (enc := enc_TItem) (o := false) rfl rfl rfl e3) ?_
   refine rl.run 1 rfl ?_
   refine rl.op (x_ld_el (off' := 0) ek_TItem rfl e3 rfl rfl rfl) ?_
   refine rl.run 1 rfl ?_
   refine rl.gen rfl rfl fun b hb => ?_
   cases b
   ·have h6 := iteBF h5 hb
    refine rl.done (RW.cond_f rfl (RW.skip (RW.sreg (rl.run 3 rfl (rl.done ?_)))))
    refine RW.keep [0, 1, 5] (a' := [(0, .lst false 9 (fl (enc_TItem false) x0) x0.length), (1, .int .i64 (w64 (s1.1 + 1))), (5, .int .i64 s1.2)]) (H' := []) rfl rfl ?_
    refine RW.seq (RW.sreg (rl.run 2 rfl ?_))
    obtain ⟨v4, e4, h7⟩ := bindS h6
    refine rl.op (x_ia_lst (enc := enc_TItem) (o := false) rfl rfl rfl e4) ?_
    refine rl.run 2 rfl ?_
    refine rl.op (x_ld_el (off' := 1) ek_TItem rfl e4 rfl rfl rfl) ?_
    refine rl.run 1 rfl ?_
    refine rl.gen rfl rfl fun b hb => ?_
    cases b
    ·have h8 := iteBF h7 hb
     refine rl.done (RW.cond_f rfl (RW.skip (RW.sreg (rl.run 3 rfl (rl.done (RW.seq (RW.sreg (rl.run 2 rfl ?_))))))))
     obtain ⟨v5, e5, h9⟩ := bindS h8
     refine rl.op (x_ia_lst (enc := enc_TItem) (o := false) rfl rfl rfl e5) ?_
     refine rl.run 2 rfl ?_
     refine rl.op (x_ld_el (off' := 2) ek_TItem rfl e5 rfl rfl rfl) ?_
     refine rl.run 1 rfl ?_
     refine rl.gen rfl rfl fun b hb => ?_
     cases b
     ·have h10 := iteBF h9 hb
      refine rl.done ?_
      refine RW.keep [0, 1, 5, 38] (a' := [(0, .lst false 9 (fl (enc_TItem false) x0) x0.length), (1, .int .i64 (w64 ((w64 (s1.1 + 1)) + 1))), (5, .int .i64 s1.2), (38, .bool false)]) (H' := []) rfl rfl ?_
      refine RW.cond_f rfl (RW.skip (RW.sreg (rl.run 3 rfl (rl.done (RW.seq (RW.sreg (rl.run 2 rfl ?_)))))))
      obtain ⟨v6, e6, h11⟩ := bindS h10
      refine rl.op (x_ia_lst (enc := enc_TItem) (o := false) rfl rfl rfl e6) ?_
      refine rl.run 2 rfl ?_
      refine rl.op (x_ld_el (off' := 3) ek_TItem rfl e6 rfl rfl rfl) ?_
      refine rl.run 1 rfl ?_
      refine rl.gen rfl rfl fun b hb => ?_
      cases b
      ·have h12 := iteBF h11 hb
       refine rl.done (RW.cond_f rfl (RW.skip (RW.sreg (rl.run 3 rfl (rl.done ?_)))))
       refine RW.keep [0, 1, 5] (a' := [(0, .lst false 9 (fl (enc_TItem false) x0) x0.length), (1, .int .i64 (w64 ((w64 ((w64 ((w64 (s1.1 + 1)) + 1)) + 1)) + 1))), (5, .int .i64 s1.2)]) (H' := []) rfl rfl ?_
       refine RW.seq (RW.sreg (rl.run 2 rfl ?_))
       obtain ⟨v7, e7, h13⟩ := bindS h12
       refine rl.op (x_ia_lst (enc := enc_TItem) (o := false) rfl rfl rfl e7) ?_
       refine rl.run 2 rfl ?_
       refine rl.op (x_ld_el (off' := 4) ek_TItem rfl e7 rfl rfl rfl) ?_
       refine rl.run 1 rfl ?_
       refine rl.gen rfl rfl fun b hb => ?_
       cases b
       ·have h14 := iteBF h13 hb
        refine rl.done (RW.cond_f rfl (RW.skip (RW.sreg (rl.run 3 rfl (rl.done (RW.seq (RW.sreg (rl.run 2 rfl ?_))))))))
        obtain ⟨v8, e8, h15⟩ := bindS h14
        refine rl.op (x_ia_lst (enc := enc_TItem) (o := false) rfl rfl rfl e8) ?_
        refine rl.run 2 rfl ?_
        refine rl.op (x_ld_el (off' := 5) ek_TItem rfl e8 rfl rfl rfl) ?_
        refine rl.run 1 rfl ?_
        refine rl.gen rfl rfl fun b hb => ?_
        cases b
        ·have h16 := iteBF h15 hb
         refine rl.done ?_
         refine RW.keep [0, 1, 5, 68] (a' := [(0, .lst false 9 (fl (enc_TItem false) x0) x0.length), (1, .int .i64 (w64 ((w64 ((w64 ((w64 ((w64 (s1.1 + 1)) + 1)) + 1)) + 1)) + 1))), (5, .int .i64 s1.2), (68, .bool false)]) (H' := []) rfl rfl ?_
         refine RW.cond_f rfl (RW.skip (RW.sreg (rl.run 3 rfl (rl.done (RW.seq (RW.sdrw (rdraw.op rfl rfl (rdraw.op rfl rfl ?_))))))))
         obtain ⟨v9, e9, h17⟩ := bindS h16
         refine rdraw.op rfl (x_ia_lst (enc := enc_TItem) (o := false) rfl rfl rfl e9) ?_
         refine rdraw.op rfl rfl (rdraw.op rfl rfl ?_)
         refine rdraw.op rfl (x_ld_el (off' := 6) ek_TItem rfl e9 rfl rfl rfl) ?_
         refine rdraw.op rfl rfl ?_
         obtain ⟨v10, e10, h18⟩ := bindS h17
         refine rdraw.call rfl rfl rfl (CallW.val (r' := .str v10) ok_laws_markText (law_laws_markText e10) (.cons .int .nil) .refl ⟨rfl, ?_⟩)
         refine rdraw.gen rfl rfl fun b hb => ?_
         cases b
         ·have h19 := iteBF h18 hb
          refine rdraw.done ?_
          refine RW.keep [0, 1, 5, 79] (a' := [(0, .lst false 9 (fl (enc_TItem false) x0) x0.length), (1, .int .i64 (w64 ((w64 ((w64 ((w64 ((w64 ((w64 (s1.1 + 1)) + 1)) + 1)) + 1)) + 1)) + 1))), (5, .int .i64 s1.2), (79, .bool false)]) (H' := []) rfl rfl ?_
          refine RW.cond_f rfl (RW.skip (RW.sreg (rl.run 3 rfl (rl.done (RW.seq (RW.sdrw (rdraw.op rfl rfl (rdraw.op rfl rfl ?_))))))))
          obtain ⟨v11, e11, h20⟩ := bindS h19
          refine rdraw.op rfl (x_ia_lst (enc := enc_TItem) (o := false) rfl rfl rfl e11) ?_
          refine rdraw.op rfl rfl (rdraw.op rfl rfl ?_)
          refine rdraw.op rfl (x_ld_el (off' := 7) ek_TItem rfl e11 rfl rfl rfl) ?_
          refine rdraw.op rfl rfl ?_
          obtain ⟨v12, e12, h21⟩ := bindS h20
          refine rdraw.call rfl rfl rfl (CallW.val (r' := .str v12) ok_laws_markText (law_laws_markText e12) (.cons .int .nil) .refl ⟨rfl, ?_⟩)
          refine rdraw.gen rfl rfl fun b hb => ?_
          cases b
          ·have h22 := iteBF h21 hb
           refine rdraw.done ?_
           refine RW.keep [0, 1, 5, 90] (a' := [(0, .lst false 9 (fl (enc_TItem false) x0) x0.length), (1, .int .i64 (w64 ((w64 ((w64 ((w64 ((w64 ((w64 ((w64 (s1.1 + 1)) + 1)) + 1)) + 1)) + 1)) + 1)) + 1))), (5, .int .i64 s1.2), (90, .bool false)]) (H' := []) rfl rfl ?_
           refine RW.cond_f rfl (RW.skip (RW.sreg (rl.run 3 rfl (rl.done (RW.seq (RW.sdrw (rdraw.op rfl rfl (rdraw.op rfl rfl ?_))))))))
           obtain ⟨v13, e13, h23⟩ := bindS h22
           refine rdraw.op rfl (x_ia_lst (enc := enc_TItem) (o := false) rfl rfl rfl e13) ?_
           refine rdraw.op rfl rfl (rdraw.op rfl rfl ?_)
           refine rdraw.op rfl (x_ld_el (off' := 8) ek_TItem rfl e13 rfl rfl rfl) ?_
           refine rdraw.op rfl rfl ?_
           obtain ⟨v14, e14, h24⟩ := bindS h23
           refine rdraw.call rfl rfl rfl (CallW.val (r' := .str v14) ok_laws_markText (law_laws_markText e14) (.cons .int .nil) .refl ⟨rfl, ?_⟩)
           refine rdraw.gen rfl rfl fun b hb => ?_
           cases b
           ·have h25 := iteBF h24 hb
            refine rdraw.done ?_
            refine RW.keep [0, 1, 5, 101] (a' := [(0, .lst false 9 (fl (enc_TItem false) x0) x0.length), (1, .int .i64 (w64 ((w64 ((w64 ((w64 ((w64 ((w64 ((w64 ((w64 (s1.1 + 1)) + 1)) + 1)) + 1)) + 1)) + 1)) + 1)) + 1))), (5, .int .i64 s1.2), (101, .bool false)]) (H' := []) rfl rfl ?_
            refine RW.cond_f rfl (RW.skip (RW.reg (rl.run 3 rfl (rl.done (RW.reg (rl.run 3 rfl (rl.done ?_)))))))
            cases h25
            exact hB1 _ rfl _ _ (Gh.ren0 [] .nil rfl (.cons rfl (.dat (ek_TItem.rlst)) (.cons rfl (.dat .int) (.cons rfl (.dat .int) .nil))))
           ·have h26 := iteBT h24 hb
            refine rdraw.done ?_
            refine RW.keep [0, 1, 5, 101] (a' := [(0, .lst false 9 (fl (enc_TItem false) x0) x0.length), (1, .int .i64 (w64 ((w64 ((w64 ((w64 ((w64 ((w64 ((w64 ((w64 (s1.1 + 1)) + 1)) + 1)) + 1)) + 1)) + 1)) + 1)) + 1))), (5, .int .i64 s1.2), (101, .bool true)]) (H' := []) rfl rfl ?_
            refine RW.cond_t rfl (RW.sreg (rl.run 1 rfl (rl.done (RW.ret ?_))))
            cases h26
            have h27 := elimL h2 (hE1 _ rfl)
            cases h27
            exact RRet.mk rfl .int (by first | decide | simp)
          ·have h28 := iteBT h21 hb
           refine rdraw.done ?_
           refine RW.keep [0, 1, 5, 90] (a' := [(0, .lst false 9 (fl (enc_TItem false) x0) x0.length), (1, .int .i64 (w64 ((w64 ((w64 ((w64 ((w64 ((w64 ((w64 (s1.1 + 1)) + 1)) + 1)) + 1)) + 1)) + 1)) + 1))), (5, .int .i64 s1.2), (90, .bool true)]) (H' := []) rfl rfl ?_
           refine RW.cond_t rfl (RW.sreg (rl.run 1 rfl (rl.done (RW.ret ?_))))
           cases h28
           have h29 := elimL h2 (hE1 _ rfl)
           cases h29
           exact RRet.mk rfl .int (by first | decide | simp)
         ·have h30 := iteBT h18 hb
          refine rdraw.done ?_
          refine RW.keep [0, 1, 5, 79] (a' := [(0, .lst false 9 (fl (enc_TItem false) x0) x0.length), (1, .int .i64 (w64 ((w64 ((w64 ((w64 ((w64 ((w64 (s1.1 + 1)) + 1)) + 1)) + 1)) + 1)) + 1))), (5, .int .i64 s1.2), (79, .bool true)]) (H' := []) rfl rfl ?_
          refine RW.cond_t rfl (RW.sreg (rl.run 1 rfl (rl.done (RW.ret ?_))))
          cases h30
          have h31 := elimL h2 (hE1 _ rfl)
          cases h31
          exact RRet.mk rfl .int (by first | decide | simp)
        ·have h32 := iteBT h15 hb
         refine rl.done ?_
         refine RW.keep [0, 1, 5, 68] (a' := [(0, .lst false 9 (fl (enc_TItem false) x0) x0.length), (1, .int .i64 (w64 ((w64 ((w64 ((w64 ((w64 (s1.1 + 1)) + 1)) + 1)) + 1)) + 1))), (5, .int .i64 s1.2), (68, .bool true)]) (H' := []) rfl rfl ?_
         refine RW.cond_t rfl (RW.sreg (rl.run 1 rfl (rl.done (RW.ret ?_))))
         cases h32
         have h33 := elimL h2 (hE1 _ rfl)
         cases h33
         exact RRet.mk rfl .int (by first | decide | simp)
       ·have h34 := iteBT h13 hb
        refine rl.done (RW.cond_t rfl (RW.sreg (rl.run 1 rfl (rl.done ?_))))
        refine RW.keep [4] (a' := [(4, .int .i64 (-1))]) (H' := []) rfl rfl ?_
        refine RW.ret ?_
        cases h34
        have h35 := elimL h2 (hE1 _ rfl)
        cases h35
        exact RRet.mk rfl .int (by first | decide | simp)
      ·have h36 := iteBT h11 hb
       refine rl.done (RW.cond_t rfl (RW.sreg (rl.run 1 rfl (rl.done ?_))))
       refine RW.keep [4] (a' := [(4, .int .i64 (-1))]) (H' := []) rfl rfl ?_
       refine RW.ret ?_
       cases h36
       have h37 := elimL h2 (hE1 _ rfl)
       cases h37
       exact RRet.mk rfl .int (by first | decide | simp)
     ·have h38 := iteBT h9 hb
      refine rl.done ?_
      refine RW.keep [0, 1, 5, 38] (a' := [(0, .lst false 9 (fl (enc_TItem false) x0) x0.length), (1, .int .i64 (w64 ((w64 (s1.1 + 1)) + 1))), (5, .int .i64 s1.2), (38, .bool true)]) (H' := []) rfl rfl ?_
      refine RW.cond_t rfl (RW.sreg (rl.run 1 rfl (rl.done (RW.ret ?_))))
      cases h38
      have h39 := elimL h2 (hE1 _ rfl)
      cases h39
      exact RRet.mk rfl .int (by first | decide | simp)
    ·have h40 := iteBT h7 hb
     refine rl.done (RW.cond_t rfl (RW.sreg (rl.run 1 rfl (rl.done ?_))))
     refine RW.keep [4] (a' := [(4, .int .i64 (-1))]) (H' := []) rfl rfl ?_
     refine RW.ret ?_
     cases h40
     have h41 := elimL h2 (hE1 _ rfl)
     cases h41
     exact RRet.mk rfl .int (by first | decide | simp)
   ·have h42 := iteBT h5 hb
    refine rl.done (RW.cond_t rfl (RW.sreg (rl.run 1 rfl (rl.done ?_))))
    refine RW.keep [4] (a' := [(4, .int .i64 (-1))]) (H' := []) rfl rfl ?_
    refine RW.ret ?_
    cases h42
    have h43 := elimL h2 (hE1 _ rfl)
    cases h43
    exact RRet.mk rfl .int (by first | decide | simp)
 ·intro y2 hC
  have h2 := elimR h2 hC
  refine RW.sreg (rl.run 2 rfl (rl.done (RW.ret ?_)))
  cases h2
  exact RRet.mk rfl .int (by first | decide | simp)
set_option maxHeartbeats 2000000 in
theorem law_laws_heldSegS {x0 : List TSeg} {x1 : Int} {r : Int} (hF : F_laws_heldSegS x0 x1 = some r) : PCalls Tryz.prog 43 [.lst false 4 (fl (enc_TSeg false) x0) x0.length, .int .i64 x1] (.int .i64 r) := by
 refine PCalls.of_r k_laws_heldSegS rfl ?_
 unfold F_laws_heldSegS at hF
 refine RW.sreg (rl.run 1 rfl (rl.done (RW.seq (RW.sreg (rl.run 1 rfl (rl.done ?_))))))
 obtain ⟨y8, ey8, h2⟩ := bindS hF
 refine RW.cutq (σ := Int) (fun y2 => [(1, .int .i64 y2)]) (fun y2 => []) (fun y => y8 = .inr y) (fun _ _ _ _ g h => RW.gh g h) ?_ ?_
 ·refine RW.blk ?_
  refine RW.iter (σ := Int × Int) ey8 (fun s1 => [(0, .lst false 4 (fl (enc_TSeg false) x0) x0.length), (1, .int .i64 s1.1), (5, .int .i64 s1.2)]) (fun s1 => []) (Gh.ren0 [] .nil rfl (.cons rfl (.dat (ek_TSeg.rlst)) (.cons rfl (.dat .int) (.cons rfl (.dat .int) .nil)))) (fun s1 B o hS1 hB1 hE1 => ?_)
  unfold S_laws_heldSegS_1 at hS1
  refine RW.seq (RW.sreg (rl.run 3 rfl ?_))
  refine rl.gen rfl rfl fun b hb => ?_
  cases b
  ·have h3 := iteBF hS1 hb
   refine rl.done (RW.cond_f rfl (RW.exit (blkA_eq ?_)))
   cases h3
   exact ⟨_, (hE1 _ rfl).symm, (Gh.ren0 [] .nil rfl (.cons rfl (.dat .int) .nil))⟩
  ·have h4 := iteBT hS1 hb
   refine rl.done (RW.cond_t rfl (RW.skip (RW.seq (RW.blk (RW.seq (RW.sreg (rl.run 2 rfl ?_)))))))
   obtain ⟨v3, e3, h5⟩ := bindS h4
   refine rl.op (x_ia_lst (enc := enc_TSeg) (o := false) rfl rfl rfl e3) ?_
   refine rl.run 1 rfl ?_
   refine rl.op (x_ld_el (off' := 0) ek_TSeg rfl e3 rfl rfl rfl) ?_
   refine rl.run 1 rfl ?_
   refine rl.gen rfl rfl fun b hb => ?_
   cases b
   ·have h6 := iteBF h5 hb
    refine rl.done (RW.cond_f rfl (RW.skip (RW.sreg (rl.run 3 rfl (rl.done ?_)))))
    refine RW.keep [0, 1, 5] (a' := [(0, .lst false 4 (fl (enc_TSeg false) x0) x0.length), (1, .int .i64 (w64 (s1.1 + 1))), (5, .int .i64 s1.2)]) (H' := []) rfl rfl ?_
    refine RW.seq (RW.sreg (rl.run 2 rfl ?_))
    obtain ⟨v4, e4, h7⟩ := bindS h6
    refine rl.op (x_ia_lst (enc := enc_TSeg) (o := false) rfl rfl rfl e4) ?_
    refine rl.run 1 rfl ?_
    refine rl.op (x_ld_el (off' := 1) ek_TSeg rfl e4 rfl rfl rfl) ?_
    refine rl.run 1 rfl ?_
    refine rl.gen rfl rfl fun b hb => ?_
    cases b
    ·have h8 := iteBF h7 hb
     refine rl.done (RW.cond_f rfl (RW.skip (RW.sreg (rl.run 3 rfl (rl.done (RW.seq (RW.sreg (rl.run 2 rfl ?_))))))))
     obtain ⟨v5, e5, h9⟩ := bindS h8
     refine rl.op (x_ia_lst (enc := enc_TSeg) (o := false) rfl rfl rfl e5) ?_
     refine rl.run 1 rfl ?_
     refine rl.op (x_ld_el (off' := 2) ek_TSeg rfl e5 rfl rfl rfl) ?_
     refine rl.run 1 rfl ?_
     refine rl.gen rfl rfl fun b hb => ?_
     cases b
     ·have h10 := iteBF h9 hb
      refine rl.done ?_
      refine RW.keep [0, 1, 5, 36] (a' := [(0, .lst false 4 (fl (enc_TSeg false) x0) x0.length), (1, .int .i64 (w64 ((w64 (s1.1 + 1)) + 1))), (5, .int .i64 s1.2), (36, .bool false)]) (H' := []) rfl rfl ?_
      refine RW.cond_f rfl (RW.skip (RW.sreg (rl.run 3 rfl (rl.done (RW.sreg (rl.run 2 rfl ?_))))))
      obtain ⟨v6, e6, h11⟩ := bindS h10
      refine rl.op (x_ia_lst (enc := enc_TSeg) (o := false) rfl rfl rfl e6) ?_
      refine rl.run 1 rfl ?_
      refine rl.op (x_ld_el (off' := 3) ek_TSeg rfl e6 rfl rfl rfl) ?_
      refine rl.run 1 rfl ?_
      obtain ⟨v7, e7, h12⟩ := bindS h11
      refine rl.call rfl rfl rfl (CallW.val (r' := .int .i64 v7) ok_laws_heldItemS (law_laws_heldItemS e7) (.cons (.lst ek_TItem) (.cons .int .nil)) .refl ?_)
      refine rl.run 1 rfl (rl.done (RW.sreg (rl.run 1 rfl ?_)))
      refine rl.gen rfl rfl fun b hb => ?_
      cases b
      ·have h13 := iteBF h12 hb
       refine rl.done ?_
       refine RW.keep [0, 1, 5, 47] (a' := [(0, .lst false 4 (fl (enc_TSeg false) x0) x0.length), (1, .int .i64 v7), (5, .int .i64 s1.2), (47, .bool false)]) (H' := []) rfl rfl ?_
       refine RW.cond_f rfl (RW.skip (RW.reg (rl.run 3 rfl (rl.done ?_))))
       cases h13
       exact hB1 _ rfl _ _ (Gh.ren0 [] .nil rfl (.cons rfl (.dat (ek_TSeg.rlst)) (.cons rfl (.dat .int) (.cons rfl (.dat .int) .nil))))
      ·have h14 := iteBT h12 hb
       refine rl.done ?_
       refine RW.keep [0, 1, 5, 47] (a' := [(0, .lst false 4 (fl (enc_TSeg false) x0) x0.length), (1, .int .i64 v7), (5, .int .i64 s1.2), (47, .bool true)]) (H' := []) rfl rfl ?_
       refine RW.cond_t rfl (RW.sreg (rl.run 1 rfl (rl.done (RW.ret ?_))))
       cases h14
       have h15 := elimL h2 (hE1 _ rfl)
       cases h15
       exact RRet.mk rfl .int (by first | decide | simp)
     ·have h16 := iteBT h9 hb
      refine rl.done ?_
      refine RW.keep [0, 1, 5, 36] (a' := [(0, .lst false 4 (fl (enc_TSeg false) x0) x0.length), (1, .int .i64 (w64 ((w64 (s1.1 + 1)) + 1))), (5, .int .i64 s1.2), (36, .bool true)]) (H' := []) rfl rfl ?_
      refine RW.cond_t rfl (RW.sreg (rl.run 1 rfl (rl.done (RW.ret ?_))))
      cases h16
      have h17 := elimL h2 (hE1 _ rfl)
      cases h17
      exact RRet.mk rfl .int (by first | decide | simp)
    ·have h18 := iteBT h7 hb
     refine rl.done (RW.cond_t rfl (RW.sreg (rl.run 1 rfl (rl.done (RW.ret ?_)))))
     cases h18
     have h19 := elimL h2 (hE1 _ rfl)
     cases h19
     exact RRet.mk rfl .int (by first | decide | simp)
   ·have h20 := iteBT h5 hb
    refine rl.done (RW.cond_t rfl (RW.sreg (rl.run 1 rfl (rl.done ?_))))
    refine RW.keep [4] (a' := [(4, .int .i64 (-1))]) (H' := []) rfl rfl ?_
    refine RW.ret ?_
    cases h20
    have h21 := elimL h2 (hE1 _ rfl)
    cases h21
    exact RRet.mk rfl .int (by first | decide | simp)
 ·intro y2 hC
  have h2 := elimR h2 hC
  refine RW.sreg (rl.run 2 rfl (rl.done (RW.ret ?_)))
  cases h2
  exact RRet.mk rfl .int (by first | decide | simp)
theorem law_laws_heldLog {x0 : TLog} {x1 : Int} {r : Int} (hF : F_laws_heldLog x0 x1 = some r) : PCalls Tryz.prog 11 [.agg (enc_TLog false x0), .int .i64 x1] (.int .i64 r) := by
 refine PCalls.of_r k_laws_heldLog rfl ?_
 unfold F_laws_heldLog at hF
 refine RW.sreg (rl.run 2 rfl (rl.done (RW.sreg (rl.run 3 rfl ?_))))
 obtain ⟨v1, e1, h1⟩ := bindS hF
 refine rl.call rfl rfl rfl (CallW.val (r' := .int .i64 v1) ok_laws_heldDisk (law_laws_heldDisk e1) (.cons (DFL.agg (.cons (.lst ekS) (.cons (.lst ek_TWrite) .nil))) (.cons .int .nil)) .refl ?_)
 refine rl.run 1 rfl (rl.done (RW.seq (RW.sreg (rl.run 1 rfl ?_))))
 refine rl.gen rfl rfl fun b hb => ?_
 cases b
 ·have h2 := iteBF h1 hb
  refine rl.done (RW.cond_f rfl (RW.skip (RW.sreg (rl.run 3 rfl ?_))))
  obtain ⟨v2, e2, h3⟩ := bindS h2
  refine rl.call rfl rfl rfl (CallW.val (r' := .int .i64 v2) ok_laws_heldSegS (law_laws_heldSegS e2) (.cons (.lst ek_TSeg) (.cons .int .nil)) .refl ?_)
  refine rl.run 1 rfl (rl.done ?_)
  refine RW.keep [1] (a' := [(1, .int .i64 v2)]) (H' := [some ⟨[.lst false 1 (fl (encS false) x0.Disk.Sectors) x0.Disk.Sectors.length, .lst false 2 (fl (enc_TWrite false) x0.Disk.Cache) x0.Disk.Cache.length, .int .i64 x0.Segs, .lst false 4 (fl (enc_TSeg false) x0.Used) x0.Used.length, .int .i64 x0.NextGen, .int .i64 x0.NextSeq, .int .i64 x0.Stamp, .int .i64 x0.NextValid], 0⟩]) rfl rfl ?_
  refine RW.seq (RW.sreg (rl.run 1 rfl ?_))
  refine rl.gen rfl rfl fun b hb => ?_
  cases b
  ·have h4 := iteBF h3 hb
   refine rl.done (RW.cond_f rfl (RW.skip (RW.sreg (rl.run 2 rfl (rl.done (RW.ret ?_))))))
   cases h4
   exact RRet.mk rfl .int (by first | decide | simp)
  ·have h5 := iteBT h3 hb
   refine rl.done (RW.cond_t rfl (RW.sreg (rl.run 1 rfl (rl.done (RW.ret ?_)))))
   cases h5
   exact RRet.mk rfl .int (by first | decide | simp)
 ·have h6 := iteBT h1 hb
  refine rl.done (RW.cond_t rfl (RW.sreg (rl.run 1 rfl (rl.done (RW.ret ?_)))))
  cases h6
  exact RRet.mk rfl .int (by first | decide | simp)
theorem law_laws_heldIntS {x0 : List Int} {x1 : Int} {r : Int} (hF : F_laws_heldIntS x0 x1 = some r) : PCalls Tryz.prog 46 [.lst false 1 (fl (encI false) x0) x0.length, .int .i64 x1] (.int .i64 r) := by
 refine PCalls.of_r k_laws_heldIntS rfl ?_
 unfold F_laws_heldIntS at hF
 refine RW.sreg (rl.run 1 rfl (rl.done (RW.seq (RW.sreg (rl.run 1 rfl (rl.done ?_))))))
 obtain ⟨y4, ey4, h2⟩ := bindS hF
 refine RW.cutq (σ := Int) (fun y2 => [(1, .int .i64 y2)]) (fun y2 => []) (fun y => y4 = .inr y) (fun _ _ _ _ g h => RW.gh g h) ?_ ?_
 ·refine RW.blk ?_
  refine RW.iter (σ := Int × Int) ey4 (fun s1 => [(0, .lst false 1 (fl (encI false) x0) x0.length), (1, .int .i64 s1.1), (5, .int .i64 s1.2)]) (fun s1 => []) (Gh.ren0 [] .nil rfl (.cons rfl (.dat (ekI.rlst)) (.cons rfl (.dat .int) (.cons rfl (.dat .int) .nil)))) (fun s1 B o hS1 hB1 hE1 => ?_)
  unfold S_laws_heldIntS_1 at hS1
  refine RW.seq (RW.sreg (rl.run 3 rfl ?_))
  refine rl.gen rfl rfl fun b hb => ?_
  cases b
  ·have h3 := iteBF hS1 hb
   refine rl.done (RW.cond_f rfl (RW.exit (blkA_eq ?_)))
   cases h3
   exact ⟨_, (hE1 _ rfl).symm, (Gh.ren0 [] .nil rfl (.cons rfl (.dat .int) .nil))⟩
  ·have h4 := iteBT hS1 hb
   refine rl.done (RW.cond_t rfl (RW.skip (RW.seq (RW.blk (RW.seq (RW.sreg (rl.run 2 rfl ?_)))))))
   obtain ⟨v3, e3, h5⟩ := bindS h4
   refine rl.op (x_ia_lst (enc := encI) (o := false) rfl rfl rfl e3) ?_
   refine rl.op (x_ld_el (off' := 0) ekI rfl e3 rfl rfl rfl) ?_
   refine rl.run 1 rfl ?_
   refine rl.gen rfl rfl fun b hb => ?_
   cases b
   ·have h6 := iteBF h5 hb
    refine rl.done (RW.cond_f rfl (RW.skip (RW.reg (rl.run 3 rfl (rl.done (RW.reg (rl.run 3 rfl (rl.done ?_))))))))
    cases h6
    exact hB1 _ rfl _ _ (Gh.ren0 [] .nil rfl (.cons rfl (.dat (ekI.rlst)) (.cons rfl (.dat .int) (.cons rfl (.dat .int) .nil))))
   ·have h7 := iteBT h5 hb
    refine rl.done (RW.cond_t rfl (RW.sreg (rl.run 1 rfl (rl.done ?_))))
    refine RW.keep [4] (a' := [(4, .int .i64 (-1))]) (H' := []) rfl rfl ?_
    refine RW.ret ?_
    cases h7
    have h8 := elimL h2 (hE1 _ rfl)
    cases h8
    exact RRet.mk rfl .int (by first | decide | simp)
 ·intro y2 hC
  have h2 := elimR h2 hC
  refine RW.sreg (rl.run 2 rfl (rl.done (RW.ret ?_)))
  cases h2
  exact RRet.mk rfl .int (by first | decide | simp)
theorem law_laws_heldStore {x0 : TStore} {x1 : Int} {r : Int} (hF : F_laws_heldStore x0 x1 = some r) : PCalls Tryz.prog 16 [.agg (enc_TStore false x0), .int .i64 x1] (.int .i64 r) := by
 refine PCalls.of_r k_laws_heldStore rfl ?_
 unfold F_laws_heldStore at hF
 refine RW.sreg (rl.run 2 rfl (rl.done (RW.sreg (rl.run 3 rfl ?_))))
 obtain ⟨v1, e1, h1⟩ := bindS hF
 refine rl.call rfl rfl rfl (CallW.val (r' := .int .i64 v1) ok_laws_heldLog (law_laws_heldLog e1) (.cons (DFL.agg (.cons (.lst ekS) (.cons (.lst ek_TWrite) (.cons .int (.cons (.lst ek_TSeg) (.cons .int (.cons .int (.cons .int (.cons .int .nil))))))))) (.cons .int .nil)) .refl ?_)
 refine rl.run 1 rfl (rl.done (RW.seq (RW.sreg (rl.run 1 rfl ?_))))
 refine rl.gen rfl rfl fun b hb => ?_
 cases b
 ·have h2 := iteBF h1 hb
  refine rl.done (RW.cond_f rfl (RW.skip (RW.sreg (rl.run 3 rfl ?_))))
  obtain ⟨v2, e2, h3⟩ := bindS h2
  refine rl.call rfl rfl rfl (CallW.val (r' := .int .i64 v2) ok_laws_heldIntS (law_laws_heldIntS e2) (.cons (.lst ekI) (.cons .int .nil)) .refl ?_)
  refine rl.run 1 rfl (rl.done ?_)
  refine RW.keep [1] (a' := [(1, .int .i64 v2)]) (H' := [some ⟨[.lst false 1 (fl (encS false) x0.Log.Disk.Sectors) x0.Log.Disk.Sectors.length, .lst false 2 (fl (enc_TWrite false) x0.Log.Disk.Cache) x0.Log.Disk.Cache.length, .int .i64 x0.Log.Segs, .lst false 4 (fl (enc_TSeg false) x0.Log.Used) x0.Log.Used.length, .int .i64 x0.Log.NextGen, .int .i64 x0.Log.NextSeq, .int .i64 x0.Log.Stamp, .int .i64 x0.Log.NextValid, .lst false 1 (fl (encI false) x0.Freed) x0.Freed.length], 0⟩]) rfl rfl ?_
  refine RW.seq (RW.sreg (rl.run 1 rfl ?_))
  refine rl.gen rfl rfl fun b hb => ?_
  cases b
  ·have h4 := iteBF h3 hb
   refine rl.done (RW.cond_f rfl (RW.skip (RW.sreg (rl.run 2 rfl (rl.done (RW.ret ?_))))))
   cases h4
   exact RRet.mk rfl .int (by first | decide | simp)
  ·have h5 := iteBT h3 hb
   refine rl.done (RW.cond_t rfl (RW.sreg (rl.run 1 rfl (rl.done (RW.ret ?_)))))
   cases h5
   exact RRet.mk rfl .int (by first | decide | simp)
 ·have h6 := iteBT h1 hb
  refine rl.done (RW.cond_t rfl (RW.sreg (rl.run 1 rfl (rl.done (RW.ret ?_)))))
  cases h6
  exact RRet.mk rfl .int (by first | decide | simp)
set_option maxHeartbeats 2000000 in
theorem law_laws_FnExactStoreNew {x0 : Int} {r : Bool} (hF : F_laws_FnExactStoreNew x0 = some r) : PCalls Tryz.prog 4 [.int .i64 x0] (.bool r) := by
 refine PCalls.of_r k_laws_FnExactStoreNew rfl ?_
 unfold F_laws_FnExactStoreNew at hF
 refine RW.sreg (rl.run 1 rfl (rl.done (RW.sreg (rl.run 1 rfl ?_))))
 obtain ⟨v1, e1, h1⟩ := bindS hF
 refine rl.call rfl rfl rfl (CallW.val (r' := .tup [.agg (enc_TStore false v1.1), .bool v1.2]) ok_spec_StoreNew (law_spec_StoreNew e1) (.cons .int .nil) (FlL.tup (.cons (ek_TStore.flag _).agg (.cons .refl .nil))) ?_)
 refine rl.run 6 rfl (rl.done (RW.sreg (rl.run 1 rfl ?_)))
 obtain ⟨v2, e2, h2⟩ := bindS h1
 refine rl.call rfl rfl rfl (CallW.own (r' := .tup [.agg [.sl 1 0 v2.1.Log.Disk.Sectors.length, .sl 2 0 v2.1.Log.Disk.Cache.length, .int .i64 v2.1.Log.Segs, .sl 3 0 v2.1.Log.Used.length, .int .i64 v2.1.Log.NextGen, .int .i64 v2.1.Log.NextSeq, .int .i64 v2.1.Log.Stamp, .int .i64 v2.1.Log.NextValid, .sl 4 0 v2.1.Freed.length], .bool v2.2]) (H' := [some ⟨[.lst false 1 (fl (encS false) v1.1.Log.Disk.Sectors) v1.1.Log.Disk.Sectors.length, .lst false 2 (fl (enc_TWrite false) v1.1.Log.Disk.Cache) v1.1.Log.Disk.Cache.length, .int .i64 v1.1.Log.Segs, .lst false 4 (fl (enc_TSeg false) v1.1.Log.Used) v1.1.Log.Used.length, .int .i64 v1.1.Log.NextGen, .int .i64 v1.1.Log.NextSeq, .int .i64 v1.1.Log.Stamp, .int .i64 v1.1.Log.NextValid, .lst false 1 (fl (encI false) v1.1.Freed) v1.1.Freed.length], 0⟩, some ⟨fl (encS true) v2.1.Log.Disk.Sectors, 1⟩, some ⟨fl (enc_TWrite true) v2.1.Log.Disk.Cache, 2⟩, some ⟨fl (enc_TSeg true) v2.1.Log.Used, 4⟩, some ⟨fl (encI true) v2.1.Freed, 1⟩]) ok_impl_StoreNew (law_impl_StoreNew e2) (.cons .int .nil) (fac (ek_TStore.own _) (fac .bool fan)) rfl ?_)
 refine rl.run 6 rfl (rl.done ?_)
 refine RW.keep [0, 3, 4, 5, 6] (a' := [(0, .int .i64 x0), (3, .ptr 0 0), (4, .bool v1.2), (5, .ptr 5 0), (6, .bool v2.2)]) (H' := [some ⟨[.lst false 1 (fl (encS false) v1.1.Log.Disk.Sectors) v1.1.Log.Disk.Sectors.length, .lst false 2 (fl (enc_TWrite false) v1.1.Log.Disk.Cache) v1.1.Log.Disk.Cache.length, .int .i64 v1.1.Log.Segs, .lst false 4 (fl (enc_TSeg false) v1.1.Log.Used) v1.1.Log.Used.length, .int .i64 v1.1.Log.NextGen, .int .i64 v1.1.Log.NextSeq, .int .i64 v1.1.Log.Stamp, .int .i64 v1.1.Log.NextValid, .lst false 1 (fl (encI false) v1.1.Freed) v1.1.Freed.length], 0⟩, some ⟨fl (encS true) v2.1.Log.Disk.Sectors, 1⟩, some ⟨fl (enc_TWrite true) v2.1.Log.Disk.Cache, 2⟩, some ⟨fl (enc_TSeg true) v2.1.Log.Used, 4⟩, some ⟨fl (encI true) v2.1.Freed, 1⟩, some ⟨[.sl 1 0 v2.1.Log.Disk.Sectors.length, .sl 2 0 v2.1.Log.Disk.Cache.length, .int .i64 v2.1.Log.Segs, .sl 3 0 v2.1.Log.Used.length, .int .i64 v2.1.Log.NextGen, .int .i64 v2.1.Log.NextSeq, .int .i64 v2.1.Log.Stamp, .int .i64 v2.1.Log.NextValid, .sl 4 0 v2.1.Freed.length], 0⟩]) rfl rfl ?_
 refine RW.seq (RW.seq ?_)
 obtain ⟨y3, ey3, h3⟩ := bindS h2
 refine RW.cutq (σ := Bool) (fun y3 => [(0, .int .i64 x0), (3, .ptr 0 0), (4, .bool v1.2), (5, .ptr 1 0), (29, .bool y3)]) (fun y3 => [some ⟨[.lst false 1 (fl (encS false) v1.1.Log.Disk.Sectors) v1.1.Log.Disk.Sectors.length, .lst false 2 (fl (enc_TWrite false) v1.1.Log.Disk.Cache) v1.1.Log.Disk.Cache.length, .int .i64 v1.1.Log.Segs, .lst false 4 (fl (enc_TSeg false) v1.1.Log.Used) v1.1.Log.Used.length, .int .i64 v1.1.Log.NextGen, .int .i64 v1.1.Log.NextSeq, .int .i64 v1.1.Log.Stamp, .int .i64 v1.1.Log.NextValid, .lst false 1 (fl (encI false) v1.1.Freed) v1.1.Freed.length], 0⟩, some ⟨[.sl 2 0 v2.1.Log.Disk.Sectors.length, .sl 3 0 v2.1.Log.Disk.Cache.length, .int .i64 v2.1.Log.Segs, .sl 4 0 v2.1.Log.Used.length, .int .i64 v2.1.Log.NextGen, .int .i64 v2.1.Log.NextSeq, .int .i64 v2.1.Log.Stamp, .int .i64 v2.1.Log.NextValid, .sl 5 0 v2.1.Freed.length], 0⟩, some ⟨fl (encS true) v2.1.Log.Disk.Sectors, 1⟩, some ⟨fl (enc_TWrite true) v2.1.Log.Disk.Cache, 2⟩, some ⟨fl (enc_TSeg true) v2.1.Log.Used, 4⟩, some ⟨fl (encI true) v2.1.Freed, 1⟩]) (fun y => y3 = y) (fun _ _ _ _ g h => RW.gh g h) ?_ ?_
 ·refine RW.reg ?_
  refine rl.run 2 rfl ?_
  obtain ⟨v4, e4, h4⟩ := bindS ey3
  refine rl.call rfl rfl rfl (CallW.val (r' := .bool v4) ok_laws_eqStore (law_laws_eqStore e4) (.cons (DFL.agg (.cons (.slq ekS rfl rfl) (.cons (.slq ek_TWrite rfl rfl) (.cons .int (.cons (.slq ek_TSeg rfl rfl) (.cons .int (.cons .int (.cons .int (.cons .int (.cons (.slq ekI rfl rfl) .nil)))))))))) (.cons (DFL.agg (.cons (.lst ekS) (.cons (.lst ek_TWrite) (.cons .int (.cons (.lst ek_TSeg) (.cons .int (.cons .int (.cons .int (.cons .int (.cons (.lst ekI) .nil)))))))))) .nil)) .refl ?_)
  cases hb : v4
  ·have h5 := iteBF h4 hb
   refine rl.run 6 rfl (rl.done ?_)
   cases h5
   exact ⟨_, rfl, (Gh.ren0 [0, 5, 1, 2, 3, 4] (.cells rfl rfl (.keep (ekS.rlst) (.keep (ek_TWrite.rlst) (.keep .int (.keep (ek_TSeg.rlst) (.keep .int (.keep .int (.keep .int (.keep .int (.keep (ekI.rlst) .nil))))))))) (.cells rfl rfl (.slq rfl rfl (.slq rfl rfl (.keep .int (.slq rfl rfl (.keep .int (.keep .int (.keep .int (.keep .int (.slq rfl rfl .nil))))))))) (.same rfl (ekS.fref _ _) (.same rfl (ek_TWrite.fref _ _) (.same rfl (ek_TSeg.fref _ _) (.same rfl (ekI.fref _ _) .nil)))))) rfl (.cons rfl (.dat .int) (.cons rfl (.ptr rfl) (.cons rfl (.dat .bool) (.cons rfl (.ptr rfl) (.cons rfl (.dat .bool) .nil))))))⟩
  ·have h6 := iteBT h4 hb
   refine rl.run 4 rfl ?_
   refine rl.gen rfl rfl fun b hb => ?_
   cases b
   ·have h7 := iteBF h6 hb
    refine rl.run 1 rfl (rl.done ?_)
    cases h7
    exact ⟨_, rfl, (Gh.ren0 [0, 5, 1, 2, 3, 4] (.cells rfl rfl (.keep (ekS.rlst) (.keep (ek_TWrite.rlst) (.keep .int (.keep (ek_TSeg.rlst) (.keep .int (.keep .int (.keep .int (.keep .int (.keep (ekI.rlst) .nil))))))))) (.cells rfl rfl (.slq rfl rfl (.slq rfl rfl (.keep .int (.slq rfl rfl (.keep .int (.keep .int (.keep .int (.keep .int (.slq rfl rfl .nil))))))))) (.same rfl (ekS.fref _ _) (.same rfl (ek_TWrite.fref _ _) (.same rfl (ek_TSeg.fref _ _) (.same rfl (ekI.fref _ _) .nil)))))) rfl (.cons rfl (.dat .int) (.cons rfl (.ptr rfl) (.cons rfl (.dat .bool) (.cons rfl (.ptr rfl) (.cons rfl (.dat .bool) .nil))))))⟩
   ·have h8 := iteBT h6 hb
    refine rl.run 1 rfl (rl.done ?_)
    cases h8
    exact ⟨_, rfl, (Gh.ren0 [0, 5, 1, 2, 3, 4] (.cells rfl rfl (.keep (ekS.rlst) (.keep (ek_TWrite.rlst) (.keep .int (.keep (ek_TSeg.rlst) (.keep .int (.keep .int (.keep .int (.keep .int (.keep (ekI.rlst) .nil))))))))) (.cells rfl rfl (.slq rfl rfl (.slq rfl rfl (.keep .int (.slq rfl rfl (.keep .int (.keep .int (.keep .int (.keep .int (.slq rfl rfl .nil))))))))) (.same rfl (ekS.fref _ _) (.same rfl (ek_TWrite.fref _ _) (.same rfl (ek_TSeg.fref _ _) (.same rfl (ekI.fref _ _) .nil)))))) rfl (.cons rfl (.dat .int) (.cons rfl (.ptr rfl) (.cons rfl (.dat .bool) (.cons rfl (.ptr rfl) (.cons rfl (.dat .bool) .nil))))))⟩
 ·intro y hC
  subst hC
  cases hb : y3
  ·have h9 := iteBF h3 hb
   refine RW.cond_f rfl (RW.skip (RW.sreg (rl.run 1 rfl (rl.done (RW.sreg (rl.run 2 rfl ?_))))))
   obtain ⟨v5, e5, h10⟩ := bindS h9
   refine rl.call rfl rfl rfl (CallW.embW (r0 := .int .i64 v5.1) (H' := [some ⟨[.lst false 1 (fl (encS false) v1.1.Log.Disk.Sectors) v1.1.Log.Disk.Sectors.length, .lst false 2 (fl (enc_TWrite false) v1.1.Log.Disk.Cache) v1.1.Log.Disk.Cache.length, .int .i64 v1.1.Log.Segs, .lst false 4 (fl (enc_TSeg false) v1.1.Log.Used) v1.1.Log.Used.length, .int .i64 v1.1.Log.NextGen, .int .i64 v1.1.Log.NextSeq, .int .i64 v1.1.Log.Stamp, .int .i64 v1.1.Log.NextValid, .lst false 1 (fl (encI false) v1.1.Freed) v1.1.Freed.length], 0⟩, some ⟨[.sl 2 0 v2.1.Log.Disk.Sectors.length, .sl 3 0 v2.1.Log.Disk.Cache.length, .int .i64 v2.1.Log.Segs, .sl 4 0 v2.1.Log.Used.length, .int .i64 v2.1.Log.NextGen, .int .i64 v2.1.Log.NextSeq, .int .i64 v2.1.Log.Stamp, .int .i64 v2.1.Log.NextValid, .sl 5 0 v2.1.Freed.length], 0⟩, some ⟨fl (encS true) v5.2.1, 1⟩, some ⟨fl (enc_TWrite true) v5.2.2.1, 2⟩, some ⟨fl (enc_TSeg true) v5.2.2.2.1, 4⟩, some ⟨fl (encI true) v5.2.2.2.2, 1⟩]) [⟨fl (encS true) v2.1.Log.Disk.Sectors, 1⟩, ⟨fl (enc_TWrite true) v2.1.Log.Disk.Cache, 2⟩, ⟨fl (enc_TSeg true) v2.1.Log.Used, 4⟩, ⟨fl (encI true) v2.1.Freed, 1⟩] [⟨fl (encS true) v5.2.1, 1⟩, ⟨fl (enc_TWrite true) v5.2.2.1, 2⟩, ⟨fl (enc_TSeg true) v5.2.2.2.1, 4⟩, ⟨fl (encI true) v5.2.2.2.2, 1⟩] [2, 3, 4, 5] ok_laws_markStore (law_laws_markStore_w (guardO_s e5)) (.cons rfl (ekS.fref _ _) (ekS.fown _) (.cons rfl (ek_TWrite.fref _ _) (ek_TWrite.fown _) (.cons rfl (ek_TSeg.fref _ _) (ek_TSeg.fown _) (.cons rfl (ekI.fref _ _) (ekI.fown _) .nil)))) rfl (.cons (RnL.agg (.cons (.slq rfl rfl) (.cons (.slq rfl rfl) (.cons (.dat .int) (.cons (.slq rfl rfl) (.cons (.dat .int) (.cons (.dat .int) (.cons (.dat .int) (.cons (.dat .int) (.cons (.slq rfl rfl) .nil)))))))))) (.cons (.dat .int) .nil)) .int rfl rfl ?_)
   refine rl.run 1 rfl (rl.done (RW.sreg (rl.run 1 rfl (rl.done (RW.sreg (rl.run 2 rfl ?_))))))
   obtain ⟨v6, e6, h11⟩ := bindS h10
   refine rl.call rfl rfl rfl (CallW.val (r' := .int .i64 v6) ok_laws_heldStore (law_laws_heldStore e6) (.cons (DFL.agg (.cons (.slq ekS rfl (guardO_p (p := fun r : Int × (List (List UInt8)) × (List TWrite) × (List TSeg) × (List Int) => v2.1.Log.Disk.Sectors.length = r.2.1.length ∧ v2.1.Log.Disk.Cache.length = r.2.2.1.length ∧ v2.1.Log.Used.length = r.2.2.2.1.length ∧ v2.1.Freed.length = r.2.2.2.2.length) e5).1) (.cons (.slq ek_TWrite rfl (guardO_p (p := fun r : Int × (List (List UInt8)) × (List TWrite) × (List TSeg) × (List Int) => v2.1.Log.Disk.Sectors.length = r.2.1.length ∧ v2.1.Log.Disk.Cache.length = r.2.2.1.length ∧ v2.1.Log.Used.length = r.2.2.2.1.length ∧ v2.1.Freed.length = r.2.2.2.2.length) e5).2.1) (.cons .int (.cons (.slq ek_TSeg rfl (guardO_p (p := fun r : Int × (List (List UInt8)) × (List TWrite) × (List TSeg) × (List Int) => v2.1.Log.Disk.Sectors.length = r.2.1.length ∧ v2.1.Log.Disk.Cache.length = r.2.2.1.length ∧ v2.1.Log.Used.length = r.2.2.2.1.length ∧ v2.1.Freed.length = r.2.2.2.2.length) e5).2.2.1) (.cons .int (.cons .int (.cons .int (.cons .int (.cons (.slq ekI rfl (guardO_p (p := fun r : Int × (List (List UInt8)) × (List TWrite) × (List TSeg) × (List Int) => v2.1.Log.Disk.Sectors.length = r.2.1.length ∧ v2.1.Log.Disk.Cache.length = r.2.2.1.length ∧ v2.1.Log.Used.length = r.2.2.2.1.length ∧ v2.1.Freed.length = r.2.2.2.2.length) e5).2.2.2) .nil)))))))))) (.cons .int .nil)) .refl ?_)
   refine rl.run 1 rfl (rl.done (RW.seq (RW.sreg (rl.run 1 rfl ?_))))
   refine rl.gen rfl rfl fun b hb => ?_
   cases b
   ·have h12 := iteBF h11 hb
    refine rl.done (RW.cond_f rfl (RW.skip (RW.seq (RW.sreg (rl.run 2 rfl ?_)))))
    refine rl.gen rfl rfl fun b hb => ?_
    cases b
    ·have h13 := iteBF h12 hb
     refine rl.done ?_
     refine RW.keep [0, 3, 4, 5, 7, 40] (a' := [(0, .int .i64 x0), (3, .ptr 0 0), (4, .bool v1.2), (5, .ptr 1 0), (7, .int .i64 v5.1), (40, .bool false)]) (H' := [some ⟨[.lst false 1 (fl (encS false) v1.1.Log.Disk.Sectors) v1.1.Log.Disk.Sectors.length, .lst false 2 (fl (enc_TWrite false) v1.1.Log.Disk.Cache) v1.1.Log.Disk.Cache.length, .int .i64 v1.1.Log.Segs, .lst false 4 (fl (enc_TSeg false) v1.1.Log.Used) v1.1.Log.Used.length, .int .i64 v1.1.Log.NextGen, .int .i64 v1.1.Log.NextSeq, .int .i64 v1.1.Log.Stamp, .int .i64 v1.1.Log.NextValid, .lst false 1 (fl (encI false) v1.1.Freed) v1.1.Freed.length], 0⟩, some ⟨[.sl 2 0 v2.1.Log.Disk.Sectors.length, .sl 3 0 v2.1.Log.Disk.Cache.length, .int .i64 v2.1.Log.Segs, .sl 4 0 v2.1.Log.Used.length, .int .i64 v2.1.Log.NextGen, .int .i64 v2.1.Log.NextSeq, .int .i64 v2.1.Log.Stamp, .int .i64 v2.1.Log.NextValid, .sl 5 0 v2.1.Freed.length], 0⟩, some ⟨fl (encS true) v5.2.1, 1⟩, some ⟨fl (enc_TWrite true) v5.2.2.1, 2⟩, some ⟨fl (enc_TSeg true) v5.2.2.2.1, 4⟩, some ⟨fl (encI true) v5.2.2.2.2, 1⟩]) rfl rfl ?_
     refine RW.cond_f rfl (RW.skip (RW.sreg (rl.run 1 rfl ?_)))
     obtain ⟨v7, e7, h14⟩ := bindS h13
     refine rl.call rfl rfl rfl (CallW.val (r' := .tup [.agg (enc_TStore false v7.1), .bool v7.2]) ok_impl_StoreNew (law_impl_StoreNew e7) (.cons .int .nil) (FlL.tup (.cons (ek_TStore.flag _).agg (.cons .refl .nil))) ?_)
     refine rl.run 6 rfl (rl.done (RW.seq (RW.seq ?_)))
     obtain ⟨y8, ey8, h15⟩ := bindS h14
     refine RW.cutq (σ := Bool) (fun y8 => [(5, .ptr 0 0), (7, .int .i64 v5.1), (54, .bool y8)]) (fun y8 => [some ⟨[.sl 1 0 v5.2.1.length, .sl 2 0 v5.2.2.1.length, .int .i64 v2.1.Log.Segs, .sl 3 0 v5.2.2.2.1.length, .int .i64 v2.1.Log.NextGen, .int .i64 v2.1.Log.NextSeq, .int .i64 v2.1.Log.Stamp, .int .i64 v2.1.Log.NextValid, .sl 4 0 v5.2.2.2.2.length], 0⟩, some ⟨fl (encS true) v5.2.1, 1⟩, some ⟨fl (enc_TWrite true) v5.2.2.1, 2⟩, some ⟨fl (enc_TSeg true) v5.2.2.2.1, 4⟩, some ⟨fl (encI true) v5.2.2.2.2, 1⟩]) (fun y => y8 = y) (fun _ _ _ _ g h => RW.gh g h) ?_ ?_
     ·refine RW.reg ?_
      refine rl.run 2 rfl ?_
      obtain ⟨v9, e9, h16⟩ := bindS ey8
      refine rl.call rfl rfl rfl (CallW.val (r' := .bool v9) ok_laws_eqStore (law_laws_eqStore e9) (.cons (DFL.agg (.cons (.lst ekS) (.cons (.lst ek_TWrite) (.cons .int (.cons (.lst ek_TSeg) (.cons .int (.cons .int (.cons .int (.cons .int (.cons (.lst ekI) .nil)))))))))) (.cons (DFL.agg (.cons (.lst ekS) (.cons (.lst ek_TWrite) (.cons .int (.cons (.lst ek_TSeg) (.cons .int (.cons .int (.cons .int (.cons .int (.cons (.lst ekI) .nil)))))))))) .nil)) .refl ?_)
      cases hb : v9
      ·have h17 := iteBF h16 hb
       refine rl.run 6 rfl (rl.done ?_)
       cases h17
       exact ⟨_, rfl, (Gh.ren0 [1, 2, 3, 4, 5] (.cells rfl rfl (.slq rfl (guardO_p (p := fun r : Int × (List (List UInt8)) × (List TWrite) × (List TSeg) × (List Int) => v2.1.Log.Disk.Sectors.length = r.2.1.length ∧ v2.1.Log.Disk.Cache.length = r.2.2.1.length ∧ v2.1.Log.Used.length = r.2.2.2.1.length ∧ v2.1.Freed.length = r.2.2.2.2.length) e5).1 (.slq rfl (guardO_p (p := fun r : Int × (List (List UInt8)) × (List TWrite) × (List TSeg) × (List Int) => v2.1.Log.Disk.Sectors.length = r.2.1.length ∧ v2.1.Log.Disk.Cache.length = r.2.2.1.length ∧ v2.1.Log.Used.length = r.2.2.2.1.length ∧ v2.1.Freed.length = r.2.2.2.2.length) e5).2.1 (.keep .int (.slq rfl (guardO_p (p := fun r : Int × (List (List UInt8)) × (List TWrite) × (List TSeg) × (List Int) => v2.1.Log.Disk.Sectors.length = r.2.1.length ∧ v2.1.Log.Disk.Cache.length = r.2.2.1.length ∧ v2.1.Log.Used.length = r.2.2.2.1.length ∧ v2.1.Freed.length = r.2.2.2.2.length) e5).2.2.1 (.keep .int (.keep .int (.keep .int (.keep .int (.slq rfl (guardO_p (p := fun r : Int × (List (List UInt8)) × (List TWrite) × (List TSeg) × (List Int) => v2.1.Log.Disk.Sectors.length = r.2.1.length ∧ v2.1.Log.Disk.Cache.length = r.2.2.1.length ∧ v2.1.Log.Used.length = r.2.2.2.1.length ∧ v2.1.Freed.length = r.2.2.2.2.length) e5).2.2.2 .nil))))))))) (.same rfl (ekS.fref _ _) (.same rfl (ek_TWrite.fref _ _) (.same rfl (ek_TSeg.fref _ _) (.same rfl (ekI.fref _ _) .nil))))) rfl (.cons rfl (.ptr rfl) (.cons rfl (.dat .int) (.cons rfl (.dat .bool) .nil))))⟩
      ·have h18 := iteBT h16 hb
       refine rl.run 4 rfl ?_
       refine rl.gen rfl rfl fun b hb => ?_
       cases b
       ·have h19 := iteBF h18 hb
        refine rl.run 1 rfl (rl.done ?_)
        cases h19
        exact ⟨_, rfl, (Gh.ren0 [1, 2, 3, 4, 5] (.cells rfl rfl (.slq rfl (guardO_p (p := fun r : Int × (List (List UInt8)) × (List TWrite) × (List TSeg) × (List Int) => v2.1.Log.Disk.Sectors.length = r.2.1.length ∧ v2.1.Log.Disk.Cache.length = r.2.2.1.length ∧ v2.1.Log.Used.length = r.2.2.2.1.length ∧ v2.1.Freed.length = r.2.2.2.2.length) e5).1 (.slq rfl (guardO_p (p := fun r : Int × (List (List UInt8)) × (List TWrite) × (List TSeg) × (List Int) => v2.1.Log.Disk.Sectors.length = r.2.1.length ∧ v2.1.Log.Disk.Cache.length = r.2.2.1.length ∧ v2.1.Log.Used.length = r.2.2.2.1.length ∧ v2.1.Freed.length = r.2.2.2.2.length) e5).2.1 (.keep .int (.slq rfl (guardO_p (p := fun r : Int × (List (List UInt8)) × (List TWrite) × (List TSeg) × (List Int) => v2.1.Log.Disk.Sectors.length = r.2.1.length ∧ v2.1.Log.Disk.Cache.length = r.2.2.1.length ∧ v2.1.Log.Used.length = r.2.2.2.1.length ∧ v2.1.Freed.length = r.2.2.2.2.length) e5).2.2.1 (.keep .int (.keep .int (.keep .int (.keep .int (.slq rfl (guardO_p (p := fun r : Int × (List (List UInt8)) × (List TWrite) × (List TSeg) × (List Int) => v2.1.Log.Disk.Sectors.length = r.2.1.length ∧ v2.1.Log.Disk.Cache.length = r.2.2.1.length ∧ v2.1.Log.Used.length = r.2.2.2.1.length ∧ v2.1.Freed.length = r.2.2.2.2.length) e5).2.2.2 .nil))))))))) (.same rfl (ekS.fref _ _) (.same rfl (ek_TWrite.fref _ _) (.same rfl (ek_TSeg.fref _ _) (.same rfl (ekI.fref _ _) .nil))))) rfl (.cons rfl (.ptr rfl) (.cons rfl (.dat .int) (.cons rfl (.dat .bool) .nil))))⟩
       ·have h20 := iteBT h18 hb
        refine rl.run 1 rfl (rl.done ?_)
        cases h20
        exact ⟨_, rfl, (Gh.ren0 [1, 2, 3, 4, 5] (.cells rfl rfl (.slq rfl (guardO_p (p := fun r : Int × (List (List UInt8)) × (List TWrite) × (List TSeg) × (List Int) => v2.1.Log.Disk.Sectors.length = r.2.1.length ∧ v2.1.Log.Disk.Cache.length = r.2.2.1.length ∧ v2.1.Log.Used.length = r.2.2.2.1.length ∧ v2.1.Freed.length = r.2.2.2.2.length) e5).1 (.slq rfl (guardO_p (p := fun r : Int × (List (List UInt8)) × (List TWrite) × (List TSeg) × (List Int) => v2.1.Log.Disk.Sectors.length = r.2.1.length ∧ v2.1.Log.Disk.Cache.length = r.2.2.1.length ∧ v2.1.Log.Used.length = r.2.2.2.1.length ∧ v2.1.Freed.length = r.2.2.2.2.length) e5).2.1 (.keep .int (.slq rfl (guardO_p (p := fun r : Int × (List (List UInt8)) × (List TWrite) × (List TSeg) × (List Int) => v2.1.Log.Disk.Sectors.length = r.2.1.length ∧ v2.1.Log.Disk.Cache.length = r.2.2.1.length ∧ v2.1.Log.Used.length = r.2.2.2.1.length ∧ v2.1.Freed.length = r.2.2.2.2.length) e5).2.2.1 (.keep .int (.keep .int (.keep .int (.keep .int (.slq rfl (guardO_p (p := fun r : Int × (List (List UInt8)) × (List TWrite) × (List TSeg) × (List Int) => v2.1.Log.Disk.Sectors.length = r.2.1.length ∧ v2.1.Log.Disk.Cache.length = r.2.2.1.length ∧ v2.1.Log.Used.length = r.2.2.2.1.length ∧ v2.1.Freed.length = r.2.2.2.2.length) e5).2.2.2 .nil))))))))) (.same rfl (ekS.fref _ _) (.same rfl (ek_TWrite.fref _ _) (.same rfl (ek_TSeg.fref _ _) (.same rfl (ekI.fref _ _) .nil))))) rfl (.cons rfl (.ptr rfl) (.cons rfl (.dat .int) (.cons rfl (.dat .bool) .nil))))⟩
     ·intro y hC
      subst hC
      cases hb : y8
      ·have h21 := iteBF h15 hb
       refine RW.cond_f rfl (RW.skip (RW.sreg (rl.run 1 rfl (rl.done (RW.sreg (rl.run 2 rfl ?_))))))
       obtain ⟨v10, e10, h22⟩ := bindS h21
       refine rl.call rfl rfl rfl (CallW.val (r' := .int .i64 v10) ok_laws_heldStore (law_laws_heldStore e10) (.cons (DFL.agg (.cons (.slq ekS rfl rfl) (.cons (.slq ek_TWrite rfl rfl) (.cons .int (.cons (.slq ek_TSeg rfl rfl) (.cons .int (.cons .int (.cons .int (.cons .int (.cons (.slq ekI rfl rfl) .nil)))))))))) (.cons .int .nil)) .refl ?_)
       refine rl.run 1 rfl (rl.done (RW.seq (RW.sreg (rl.run 1 rfl ?_))))
       refine rl.gen rfl rfl fun b hb => ?_
       cases b
       ·have h23 := iteBF h22 hb
        refine rl.done (RW.cond_f rfl (RW.skip (RW.seq (RW.sreg (rl.run 2 rfl ?_)))))
        refine rl.gen rfl rfl fun b hb => ?_
        cases b
        ·have h24 := iteBF h23 hb
         refine rl.done ?_
         refine RW.keep [62] (a' := [(62, .bool false)]) (H' := [some ⟨[.sl 1 0 v5.2.1.length, .sl 2 0 v5.2.2.1.length, .int .i64 v2.1.Log.Segs, .sl 3 0 v5.2.2.2.1.length, .int .i64 v2.1.Log.NextGen, .int .i64 v2.1.Log.NextSeq, .int .i64 v2.1.Log.Stamp, .int .i64 v2.1.Log.NextValid, .sl 4 0 v5.2.2.2.2.length], 0⟩, some ⟨fl (encS true) v5.2.1, 1⟩, some ⟨fl (enc_TWrite true) v5.2.2.1, 2⟩, some ⟨fl (enc_TSeg true) v5.2.2.2.1, 4⟩, some ⟨fl (encI true) v5.2.2.2.2, 1⟩]) rfl rfl ?_
         refine RW.cond_f rfl (RW.skip (RW.sreg (rl.run 1 rfl (rl.done (RW.ret ?_)))))
         cases h24
         exact RRet.mk rfl .bool (by first | decide | simp)
        ·have h25 := iteBT h23 hb
         refine rl.done ?_
         refine RW.keep [62] (a' := [(62, .bool true)]) (H' := [some ⟨[.sl 1 0 v5.2.1.length, .sl 2 0 v5.2.2.1.length, .int .i64 v2.1.Log.Segs, .sl 3 0 v5.2.2.2.1.length, .int .i64 v2.1.Log.NextGen, .int .i64 v2.1.Log.NextSeq, .int .i64 v2.1.Log.Stamp, .int .i64 v2.1.Log.NextValid, .sl 4 0 v5.2.2.2.2.length], 0⟩, some ⟨fl (encS true) v5.2.1, 1⟩, some ⟨fl (enc_TWrite true) v5.2.2.1, 2⟩, some ⟨fl (enc_TSeg true) v5.2.2.2.1, 4⟩, some ⟨fl (encI true) v5.2.2.2.2, 1⟩]) rfl rfl ?_
         refine RW.cond_t rfl (RW.sreg (rl.run 1 rfl (rl.done (RW.ret ?_))))
         cases h25
         exact RRet.mk rfl .bool (by first | decide | simp)
       ·have h26 := iteBT h22 hb
        refine rl.done (RW.cond_t rfl (RW.sreg (rl.run 1 rfl (rl.done (RW.ret ?_)))))
        cases h26
        exact RRet.mk rfl .bool (by first | decide | simp)
      ·have h27 := iteBT h15 hb
       refine RW.cond_t rfl (RW.sreg (rl.run 1 rfl (rl.done (RW.ret ?_))))
       cases h27
       exact RRet.mk rfl .bool (by first | decide | simp)
    ·have h28 := iteBT h12 hb
     refine rl.done ?_
     refine RW.keep [0, 3, 4, 5, 7, 40] (a' := [(0, .int .i64 x0), (3, .ptr 0 0), (4, .bool v1.2), (5, .ptr 1 0), (7, .int .i64 v5.1), (40, .bool true)]) (H' := [some ⟨[.lst false 1 (fl (encS false) v1.1.Log.Disk.Sectors) v1.1.Log.Disk.Sectors.length, .lst false 2 (fl (enc_TWrite false) v1.1.Log.Disk.Cache) v1.1.Log.Disk.Cache.length, .int .i64 v1.1.Log.Segs, .lst false 4 (fl (enc_TSeg false) v1.1.Log.Used) v1.1.Log.Used.length, .int .i64 v1.1.Log.NextGen, .int .i64 v1.1.Log.NextSeq, .int .i64 v1.1.Log.Stamp, .int .i64 v1.1.Log.NextValid, .lst false 1 (fl (encI false) v1.1.Freed) v1.1.Freed.length], 0⟩, some ⟨[.sl 2 0 v2.1.Log.Disk.Sectors.length, .sl 3 0 v2.1.Log.Disk.Cache.length, .int .i64 v2.1.Log.Segs, .sl 4 0 v2.1.Log.Used.length, .int .i64 v2.1.Log.NextGen, .int .i64 v2.1.Log.NextSeq, .int .i64 v2.1.Log.Stamp, .int .i64 v2.1.Log.NextValid, .sl 5 0 v2.1.Freed.length], 0⟩, some ⟨fl (encS true) v5.2.1, 1⟩, some ⟨fl (enc_TWrite true) v5.2.2.1, 2⟩, some ⟨fl (enc_TSeg true) v5.2.2.2.1, 4⟩, some ⟨fl (encI true) v5.2.2.2.2, 1⟩]) rfl rfl ?_
     refine RW.cond_t rfl (RW.sreg (rl.run 1 rfl (rl.done (RW.ret ?_))))
     cases h28
     exact RRet.mk rfl .bool (by first | decide | simp)
   ·have h29 := iteBT h11 hb
    refine rl.done (RW.cond_t rfl (RW.sreg (rl.run 1 rfl (rl.done ?_))))
    refine RW.keep [2] (a' := [(2, .bool false)]) (H' := [some ⟨[.lst false 1 (fl (encS false) v1.1.Log.Disk.Sectors) v1.1.Log.Disk.Sectors.length, .lst false 2 (fl (enc_TWrite false) v1.1.Log.Disk.Cache) v1.1.Log.Disk.Cache.length, .int .i64 v1.1.Log.Segs, .lst false 4 (fl (enc_TSeg false) v1.1.Log.Used) v1.1.Log.Used.length, .int .i64 v1.1.Log.NextGen, .int .i64 v1.1.Log.NextSeq, .int .i64 v1.1.Log.Stamp, .int .i64 v1.1.Log.NextValid, .lst false 1 (fl (encI false) v1.1.Freed) v1.1.Freed.length], 0⟩, some ⟨[.sl 2 0 v2.1.Log.Disk.Sectors.length, .sl 3 0 v2.1.Log.Disk.Cache.length, .int .i64 v2.1.Log.Segs, .sl 4 0 v2.1.Log.Used.length, .int .i64 v2.1.Log.NextGen, .int .i64 v2.1.Log.NextSeq, .int .i64 v2.1.Log.Stamp, .int .i64 v2.1.Log.NextValid, .sl 5 0 v2.1.Freed.length], 0⟩, some ⟨fl (encS true) v5.2.1, 1⟩, some ⟨fl (enc_TWrite true) v5.2.2.1, 2⟩, some ⟨fl (enc_TSeg true) v5.2.2.2.1, 4⟩, some ⟨fl (encI true) v5.2.2.2.2, 1⟩]) rfl rfl ?_
    refine RW.ret ?_
    cases h29
    exact RRet.mk rfl .bool (by first | decide | simp)
  ·have h30 := iteBT h3 hb
   refine RW.cond_t rfl (RW.sreg (rl.run 1 rfl (rl.done (RW.ret ?_))))
   cases h30
   exact RRet.mk rfl .bool (by first | decide | simp)
end Go.Proofs.YtcehlicmghnghaaGreat.V
