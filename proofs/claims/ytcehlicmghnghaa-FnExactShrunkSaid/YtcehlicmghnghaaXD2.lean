/- What a call comes to. -/
import Derived.Test.YtcehlicmghnghaaXD1
namespace Go.Proofs.Ytcehlicmghnghaa.V
open Go Go.Proofs Go.RowKit
set_option maxRecDepth 100000
set_option maxHeartbeats 2000000 in
theorem law_laws_heldItemS {x0 : List TItem} {x1 : Int} {r : Int} (hF : F_laws_heldItemS x0 x1 = some r) : PCalls Try.prog 25 [.lst false 9 (fl (enc_TItem false) x0) x0.length, .int .i64 x1] (.int .i64 r) := by
 refine PCalls.of_r k_laws_heldItemS rfl ?_
 unfold F_laws_heldItemS at hF
 refine RW.sreg (rl.run 1 rfl (rl.done (RW.seq (RW.sreg (rl.run 1 rfl (rl.done ?_))))))
 obtain ⟨y15, ey15, h2⟩ := bindS hF
 refine RW.cutq (σ := Int) (fun y2 => [(1, .int .i64 y2)]) (fun y2 => []) (fun y => y15 = .inr y) (fun _ _ _ _ g h => RW.gh g h) ?_ ?_
 ·refine RW.blk ?_
  refine RW.iter (σ := Int × Int) ey15 (fun s1 => [(0, .lst false 9 (fl (enc_TItem false) x0) x0.length), (1, .int .i64 s1.1), (5, .int .i64 s1.2)]) (fun s1 => []) (Gh.ren0 [] .nil rfl (.cons rfl (.dat (ek_TItem.rlst)) (.cons rfl (.dat .int) (.cons rfl (.dat .int) .nil)))) (fun s1 B o hS1 hB1 hE1 => ?_)
  unfold S_laws_heldItemS_1 at hS1
  refine RW.seq (RW.sreg (rl.run 3 rfl ?_))
  refine rl.gen rfl rfl fun b hb => ?_
  cases b
  ·have h3 := iteBF hS1 hb
   refine rl.done (RW.cond_f rfl (RW.exit (blkA_eq ?_)))
   cases h3
   exact ⟨_, (hE1 _ rfl).symm, (Gh.ren0 [] .nil rfl (.cons rfl (.dat .int) .nil))⟩
  ·have h4 := iteBT hS1 hb
   refine rl.done (RW.cond_t rfl (RW.skip (RW.seq (RW.blk (RW.seq (RW.sreg (rl.run 2 rfl ?_)))))))
   obtain ⟨v3, e3, h5⟩ := bindS h4
   refine rl.op (x_ia_lst (enc := enc_TItem) (o := false) rfl rfl rfl e3) ?_
   refine rl.run 1 rfl ?_
   refine rl.op (x_ld_el (off' := 0) ek_TItem rfl e3 rfl rfl rfl) ?_
   refine rl.run 1 rfl ?_
   refine rl.gen rfl rfl fun b hb => ?_
   cases b
   ·have h6 := iteBF h5 hb
    refine rl.done (RW.cond_f rfl (RW.skip (RW.sreg (rl.run 3 rfl (rl.done ?_)))))
    refine RW.keep [0, 1, 5] (a' := [(0, .lst false 9 (fl (enc_TItem false) x0) x0.length), (1, .int .i64 (w64 (s1.1 + 1))), (5, .int .i64 s1.2)]) (H' := []) rfl rfl ?_
    refine RW.seq (RW.sreg (rl.run 2 rfl ?_))
    obtain ⟨v4, e4, h7⟩ := bindS h6
    refine rl.op (x_ia_lst (enc := enc_TItem) (o := false) rfl rfl rfl e4) ?_
    refine rl.run 2 rfl ?_
    refine rl.op (x_ld_el (off' := 1) ek_TItem rfl e4 rfl rfl rfl) ?_
    refine rl.run 1 rfl ?_
    refine rl.gen rfl rfl fun b hb => ?_
    cases b
    ·have h8 := iteBF h7 hb
     refine rl.done (RW.cond_f rfl (RW.skip (RW.sreg (rl.run 3 rfl (rl.done (RW.seq (RW.sreg (rl.run 2 rfl ?_))))))))
     obtain ⟨v5, e5, h9⟩ := bindS h8
     refine rl.op (x_ia_lst (enc := enc_TItem) (o := false) rfl rfl rfl e5) ?_
     refine rl.run 2 rfl ?_
     refine rl.op (x_ld_el (off' := 2) ek_TItem rfl e5 rfl rfl rfl) ?_
     refine rl.run 1 rfl ?_
     refine rl.gen rfl rfl fun b hb => ?_
     cases b
     ·have h10 := iteBF h9 hb
      refine rl.done ?_
      refine RW.keep [0, 1, 5, 38] (a' := [(0, .lst false 9 (fl (enc_TItem false) x0) x0.length), (1, .int .i64 (w64 ((w64 (s1.1 + 1)) + 1))), (5, .int .i64 s1.2), (38, .bool false)]) (H' := []) rfl rfl ?_
      refine RW.cond_f rfl (RW.skip (RW.sreg (rl.run 3 rfl (rl.done (RW.seq (RW.sreg (rl.run 2 rfl ?_)))))))
      obtain ⟨v6, e6, h11⟩ := bindS h10
      refine rl.op (x_ia_lst (enc := enc_TItem) (o := false) rfl rfl rfl e6) ?_
      refine rl.run 2 rfl ?_
      refine rl.op (x_ld_el (off' := 3) ek_TItem rfl e6 rfl rfl rfl) ?_
      refine rl.run 1 rfl ?_
      refine rl.gen rfl rfl fun b hb => ?_
      cases b
      ·have h12 := iteBF h11 hb
       refine rl.done (RW.cond_f rfl (RW.skip (RW.sreg (rl.run 3 rfl (rl.done ?_)))))
       refine RW.keep [0, 1, 5] (a' := [(0, .lst false 9 (fl (enc_TItem false) x0) x0.length), (1, .int .i64 (w64 ((w64 ((w64 ((w64 (s1.1 + 1)) + 1)) + 1)) + 1))), (5, .int .i64 s1.2)]) (H' := []) rfl rfl ?_
       refine RW.seq (RW.sreg (rl.run 2 rfl ?_))
       obtain ⟨v7, e7, h13⟩ := bindS h12
       refine rl.op (x_ia_lst (enc := enc_TItem) (o := false) rfl rfl rfl e7) ?_
       refine rl.run 2 rfl ?_
       refine rl.op (x_ld_el (off' := 4) ek_TItem rfl e7 rfl rfl rfl) ?_
       refine rl.run 1 rfl ?_
       refine rl.gen rfl rfl fun b hb => ?_
       cases b
       ·have h14 := iteBF h13 hb
        refine rl.done (RW.cond_f rfl (RW.skip (RW.sreg (rl.run 3 rfl (rl.done (RW.seq (RW.sreg (rl.run 2 rfl ?_))))))))
        obtain ⟨v8, e8, h15⟩ := bindS h14
        refine rl.op (x_ia_lst (enc := enc_TItem) (o := false) rfl rfl rfl e8) ?_
        refine rl.run 2 rfl ?_
        refine rl.op (x_ld_el (off' := 5) ek_TItem rfl e8 rfl rfl rfl) ?_
        refine rl.run 1 rfl ?_
        refine rl.gen rfl rfl fun b hb => ?_
        cases b
        ·have h16 := iteBF h15 hb
         refine rl.done ?_
         refine RW.keep [0, 1, 5, 68] (a' := [(0, .lst false 9 (fl (enc_TItem false) x0) x0.length), (1, .int .i64 (w64 ((w64 ((w64 ((w64 ((w64 (s1.1 + 1)) + 1)) + 1)) + 1)) + 1))), (5, .int .i64 s1.2), (68, .bool false)]) (H' := []) rfl rfl ?_
         refine RW.cond_f rfl (RW.skip (RW.sreg (rl.run 3 rfl (rl.done (RW.seq (RW.sdrw (rdraw.op rfl rfl (rdraw.op rfl rfl ?_))))))))
         obtain ⟨v9, e9, h17⟩ := bindS h16
         refine rdraw.op rfl (x_ia_lst (enc := enc_TItem) (o := false) rfl rfl rfl e9) ?_
         refine rdraw.op rfl rfl (rdraw.op rfl rfl ?_)
         refine rdraw.op rfl (x_ld_el (off' := 6) ek_TItem rfl e9 rfl rfl rfl) ?_
         refine rdraw.op rfl rfl ?_
         obtain ⟨v10, e10, h18⟩ := bindS h17
         refine rdraw.call rfl rfl rfl (CallW.val (r' := .str v10) ok_laws_markText (law_laws_markText e10) (.cons .int .nil) .refl ⟨rfl, ?_⟩)
         refine rdraw.gen rfl rfl fun b hb => ?_
         cases b
         ·have h19 := iteBF h18 hb
          refine rdraw.done ?_
          refine RW.keep [0, 1, 5, 79] (a' := [(0, .lst false 9 (fl (enc_TItem false) x0) x0.length), (1, .int .i64 (w64 ((w64 ((w64 ((w64 ((w64 ((w64 (s1.1 + 1)) + 1)) + 1)) + 1)) + 1)) + 1))), (5, .int .i64 s1.2), (79, .bool false)]) (H' := []) rfl rfl ?_
          refine RW.cond_f rfl (RW.skip (RW.sreg (rl.run 3 rfl (rl.done (RW.seq (RW.sdrw (rdraw.op rfl rfl (rdraw.op rfl rfl ?_))))))))
          obtain ⟨v11, e11, h20⟩ := bindS h19
          refine rdraw.op rfl (x_ia_lst (enc := enc_TItem) (o := false) rfl rfl rfl e11) ?_
          refine rdraw.op rfl rfl (rdraw.op rfl rfl ?_)
          refine rdraw.op rfl (x_ld_el (off' := 7) ek_TItem rfl e11 rfl rfl rfl) ?_
          refine rdraw.op rfl rfl ?_
          obtain ⟨v12, e12, h21⟩ := bindS h20
          refine rdraw.call rfl rfl rfl (CallW.val (r' := .str v12) ok_laws_markText (law_laws_markText e12) (.cons .int .nil) .refl ⟨rfl, ?_⟩)
          refine rdraw.gen rfl rfl fun b hb => ?_
          cases b
          ·have h22 := iteBF h21 hb
           refine rdraw.done ?_
           refine RW.keep [0, 1, 5, 90] (a' := [(0, .lst false 9 (fl (enc_TItem false) x0) x0.length), (1, .int .i64 (w64 ((w64 ((w64 ((w64 ((w64 ((w64 ((w64 (s1.1 + 1)) + 1)) + 1)) + 1)) + 1)) + 1)) + 1))), (5, .int .i64 s1.2), (90, .bool false)]) (H' := []) rfl rfl ?_
           refine RW.cond_f rfl (RW.skip (RW.sreg (rl.run 3 rfl (rl.done (RW.seq (RW.sdrw (rdraw.op rfl rfl (rdraw.op rfl rfl ?_))))))))
           obtain ⟨v13, e13, h23⟩ := bindS h22
           refine rdraw.op rfl (x_ia_lst (enc := enc_TItem) (o := false) rfl rfl rfl e13) ?_
           refine rdraw.op rfl rfl (rdraw.op rfl rfl ?_)
           refine rdraw.op rfl (x_ld_el (off' := 8) ek_TItem rfl e13 rfl rfl rfl) ?_
           refine rdraw.op rfl rfl ?_
           obtain ⟨v14, e14, h24⟩ := bindS h23
           refine rdraw.call rfl rfl rfl (CallW.val (r' := .str v14) ok_laws_markText (law_laws_markText e14) (.cons .int .nil) .refl ⟨rfl, ?_⟩)
           refine rdraw.gen rfl rfl fun b hb => ?_
           cases b
           ·have h25 := iteBF h24 hb
            refine rdraw.done ?_
            refine RW.keep [0, 1, 5, 101] (a' := [(0, .lst false 9 (fl (enc_TItem false) x0) x0.length), (1, .int .i64 (w64 ((w64 ((w64 ((w64 ((w64 ((w64 ((w64 ((w64 (s1.1 + 1)) + 1)) + 1)) + 1)) + 1)) + 1)) + 1)) + 1))), (5, .int .i64 s1.2), (101, .bool false)]) (H' := []) rfl rfl ?_
            refine RW.cond_f rfl (RW.skip (RW.reg (rl.run 3 rfl (rl.done (RW.reg (rl.run 3 rfl (rl.done ?_)))))))
            cases h25
            exact hB1 _ rfl _ _ (Gh.ren0 [] .nil rfl (.cons rfl (.dat (ek_TItem.rlst)) (.cons rfl (.dat .int) (.cons rfl (.dat .int) .nil))))
           ·have h26 := iteBT h24 hb
            refine rdraw.done ?_
            refine RW.keep [0, 1, 5, 101] (a' := [(0, .lst false 9 (fl (enc_TItem false) x0) x0.length), (1, .int .i64 (w64 ((w64 ((w64 ((w64 ((w64 ((w64 ((w64 ((w64 (s1.1 + 1)) + 1)) + 1)) + 1)) + 1)) + 1)) + 1)) + 1))), (5, .int .i64 s1.2), (101, .bool true)]) (H' := []) rfl rfl ?_
            refine RW.cond_t rfl (RW.sreg (rl.run 1 rfl (rl.done (RW.ret ?_))))
            cases h26
            have h27 := elimL h2 (hE1 _ rfl)
            cases h27
            exact RRet.mk rfl .int (by first | decide | simp)
          ·have h28 := iteBT h21 hb
           refine rdraw.done ?_
           refine RW.keep [0, 1, 5, 90] (a' := [(0, .lst false 9 (fl (enc_TItem false) x0) x0.length), (1, .int .i64 (w64 ((w64 ((w64 ((w64 ((w64 ((w64 ((w64 (s1.1 + 1)) + 1)) + 1)) + 1)) + 1)) + 1)) + 1))), (5, .int .i64 s1.2), (90, .bool true)]) (H' := []) rfl rfl ?_
           refine RW.cond_t rfl (RW.sreg (rl.run 1 rfl (rl.done (RW.ret ?_))))
           cases h28
           have h29 := elimL h2 (hE1 _ rfl)
           cases h29
           exact RRet.mk rfl .int (by first | decide | simp)
         ·have h30 := iteBT h18 hb
          refine rdraw.done ?_
          refine RW.keep [0, 1, 5, 79] (a' := [(0, .lst false 9 (fl (enc_TItem false) x0) x0.length), (1, .int .i64 (w64 ((w64 ((w64 ((w64 ((w64 ((w64 (s1.1 + 1)) + 1)) + 1)) + 1)) + 1)) + 1))), (5, .int .i64 s1.2), (79, .bool true)]) (H' := []) rfl rfl ?_
          refine RW.cond_t rfl (RW.sreg (rl.run 1 rfl (rl.done (RW.ret ?_))))
          cases h30
          have h31 := elimL h2 (hE1 _ rfl)
          cases h31
          exact RRet.mk rfl .int (by first | decide | simp)
        ·have h32 := iteBT h15 hb
         refine rl.done ?_
         refine RW.keep [0, 1, 5, 68] (a' := [(0, .lst false 9 (fl (enc_TItem false) x0) x0.length), (1, .int .i64 (w64 ((w64 ((w64 ((w64 ((w64 (s1.1 + 1)) + 1)) + 1)) + 1)) + 1))), (5, .int .i64 s1.2), (68, .bool true)]) (H' := []) rfl rfl ?_
         refine RW.cond_t rfl (RW.sreg (rl.run 1 rfl (rl.done (RW.ret ?_))))
         cases h32
         have h33 := elimL h2 (hE1 _ rfl)
         cases h33
         exact RRet.mk rfl .int (by first | decide | simp)
       ·have h34 := iteBT h13 hb
        refine rl.done (RW.cond_t rfl (RW.sreg (rl.run 1 rfl (rl.done ?_))))
        refine RW.keep [4] (a' := [(4, .int .i64 (-1))]) (H' := []) rfl rfl ?_
        refine RW.ret ?_
        cases h34
        have h35 := elimL h2 (hE1 _ rfl)
        cases h35
        exact RRet.mk rfl .int (by first | decide | simp)
      ·have h36 := iteBT h11 hb
       refine rl.done (RW.cond_t rfl (RW.sreg (rl.run 1 rfl (rl.done ?_))))
       refine RW.keep [4] (a' := [(4, .int .i64 (-1))]) (H' := []) rfl rfl ?_
       refine RW.ret ?_
       cases h36
       have h37 := elimL h2 (hE1 _ rfl)
       cases h37
       exact RRet.mk rfl .int (by first | decide | simp)
     ·have h38 := iteBT h9 hb
      refine rl.done ?_
      refine RW.keep [0, 1, 5, 38] (a' := [(0, .lst false 9 (fl (enc_TItem false) x0) x0.length), (1, .int .i64 (w64 ((w64 (s1.1 + 1)) + 1))), (5, .int .i64 s1.2), (38, .bool true)]) (H' := []) rfl rfl ?_
      refine RW.cond_t rfl (RW.sreg (rl.run 1 rfl (rl.done (RW.ret ?_))))
      cases h38
      have h39 := elimL h2 (hE1 _ rfl)
      cases h39
      exact RRet.mk rfl .int (by first | decide | simp)
    ·have h40 := iteBT h7 hb
     refine rl.done (RW.cond_t rfl (RW.sreg (rl.run 1 rfl (rl.done ?_))))
     refine RW.keep [4] (a' := [(4, .int .i64 (-1))]) (H' := []) rfl rfl ?_
     refine RW.ret ?_
     cases h40
     have h41 := elimL h2 (hE1 _ rfl)
     cases h41
     exact RRet.mk rfl .int (by first | decide | simp)
   ·have h42 := iteBT h5 hb
    refine rl.done (RW.cond_t rfl (RW.sreg (rl.run 1 rfl (rl.done ?_))))
    refine RW.keep [4] (a' := [(4, .int .i64 (-1))]) (H' := []) rfl rfl ?_
    refine RW.ret ?_
    cases h42
    have h43 := elimL h2 (hE1 _ rfl)
    cases h43
    exact RRet.mk rfl .int (by first | decide | simp)
 ·intro y2 hC
  have h2 := elimR h2 hC
  refine RW.sreg (rl.run 2 rfl (rl.done (RW.ret ?_)))
  cases h2
  exact RRet.mk rfl .int (by first | decide | simp)
theorem law_laws_szRec {x0 : TRec} {x1 : Int} {r : Int} (hF : F_laws_szRec x0 x1 = some r) : PCalls Try.prog 52 [.agg (enc_TRec false x0), .int .i64 x1] (.int .i64 r) := by
 refine PCalls.of_r k_laws_szRec rfl ?_
 unfold F_laws_szRec at hF
 refine RW.sreg (rl.run 2 rfl (rl.done (RW.sreg (rl.run 6 rfl (rl.done (RW.seq (RW.sreg (rl.run 1 rfl ?_))))))))
 refine rl.gen rfl rfl fun b hb => ?_
 cases b
 ·have h1 := iteBF hF hb
  refine rl.done (RW.cond_f rfl (RW.skip (RW.sreg (rl.run 6 rfl (rl.done ?_)))))
  refine RW.keep [1, 2] (a' := [(1, .int .i64 (w64 ((w64 (x1 - (x0.User.length : Int))) - (x0.Name.length : Int)))), (2, .ptr 0 0)]) (H' := [some ⟨[.int .i64 x0.Kind, .int .i64 x0.Valid, .int .i64 x0.Uid, .int .i64 x0.Next, .int .i64 x0.Flags, .str x0.User, .str x0.Name, .str x0.Text], 0⟩]) rfl rfl ?_
  refine RW.seq (RW.sreg (rl.run 1 rfl ?_))
  refine rl.gen rfl rfl fun b hb => ?_
  cases b
  ·have h2 := iteBF h1 hb
   refine rl.done (RW.cond_f rfl (RW.skip (RW.sreg (rl.run 6 rfl (rl.done (RW.seq (RW.sreg (rl.run 1 rfl ?_))))))))
   refine rl.gen rfl rfl fun b hb => ?_
   cases b
   ·have h3 := iteBF h2 hb
    refine rl.done (RW.cond_f rfl (RW.skip (RW.sreg (rl.run 2 rfl (rl.done ?_)))))
    refine RW.keep [4] (a' := [(4, .int .i64 (w64 ((w64 ((w64 (x1 - (x0.User.length : Int))) - (x0.Name.length : Int))) - (x0.Text.length : Int))))]) (H' := [some ⟨[.int .i64 x0.Kind, .int .i64 x0.Valid, .int .i64 x0.Uid, .int .i64 x0.Next, .int .i64 x0.Flags, .str x0.User, .str x0.Name, .str x0.Text], 0⟩]) rfl rfl ?_
    refine RW.ret ?_
    cases h3
    exact RRet.mk rfl .int (by first | decide | simp)
   ·have h4 := iteBT h2 hb
    refine rl.done (RW.cond_t rfl (RW.sreg (rl.run 1 rfl (rl.done ?_))))
    refine RW.keep [4] (a' := [(4, .int .i64 (-1))]) (H' := [some ⟨[.int .i64 x0.Kind, .int .i64 x0.Valid, .int .i64 x0.Uid, .int .i64 x0.Next, .int .i64 x0.Flags, .str x0.User, .str x0.Name, .str x0.Text], 0⟩]) rfl rfl ?_
    refine RW.ret ?_
    cases h4
    exact RRet.mk rfl .int (by first | decide | simp)
  ·have h5 := iteBT h1 hb
   refine rl.done (RW.cond_t rfl (RW.sreg (rl.run 1 rfl (rl.done (RW.ret ?_)))))
   cases h5
   exact RRet.mk rfl .int (by first | decide | simp)
 ·have h6 := iteBT hF hb
  refine rl.done (RW.cond_t rfl (RW.sreg (rl.run 1 rfl (rl.done (RW.ret ?_)))))
  cases h6
  exact RRet.mk rfl .int (by first | decide | simp)
theorem law_laws_szItem {x0 : TItem} {x1 : Int} {r : Int} (hF : F_laws_szItem x0 x1 = some r) : PCalls Try.prog 26 [.agg (enc_TItem false x0), .int .i64 x1] (.int .i64 r) := by
 refine PCalls.of_r k_laws_szItem rfl ?_
 unfold F_laws_szItem at hF
 refine RW.sreg (rl.run 2 rfl (rl.done (RW.sreg (rl.run 3 rfl ?_))))
 obtain ⟨v1, e1, h1⟩ := bindS hF
 refine rl.call rfl rfl rfl (CallW.val (r' := .int .i64 v1) ok_laws_szRec (law_laws_szRec e1) (.cons (DFL.agg (.cons .int (.cons .int (.cons .int (.cons .int (.cons .int (.cons .str (.cons .str (.cons .str .nil))))))))) (.cons .int .nil)) .refl ?_)
 refine rl.run 1 rfl (rl.done (RW.seq (RW.sreg (rl.run 1 rfl ?_))))
 refine rl.gen rfl rfl fun b hb => ?_
 cases b
 ·have h2 := iteBF h1 hb
  refine rl.done (RW.cond_f rfl (RW.skip (RW.sreg (rl.run 2 rfl (rl.done (RW.ret ?_))))))
  cases h2
  exact RRet.mk rfl .int (by first | decide | simp)
 ·have h3 := iteBT h1 hb
  refine rl.done (RW.cond_t rfl (RW.sreg (rl.run 1 rfl (rl.done (RW.ret ?_)))))
  cases h3
  exact RRet.mk rfl .int (by first | decide | simp)
theorem law_laws_szItemS {x0 : List TItem} {x1 : Int} {r : Int} (hF : F_laws_szItemS x0 x1 = some r) : PCalls Try.prog 6 [.lst false 9 (fl (enc_TItem false) x0) x0.length, .int .i64 x1] (.int .i64 r) := by
 refine PCalls.of_r k_laws_szItemS rfl ?_
 unfold F_laws_szItemS at hF
 refine RW.sreg (rl.run 1 rfl (rl.done (RW.sreg (rl.run 5 rfl (rl.done (RW.seq (RW.sreg (rl.run 1 rfl ?_))))))))
 refine rl.gen rfl rfl fun b hb => ?_
 cases b
 ·have h1 := iteBF hF hb
  refine rl.done (RW.cond_f rfl (RW.skip (RW.seq (RW.sreg (rl.run 1 rfl (rl.done ?_))))))
  obtain ⟨y5, ey5, h3⟩ := bindS h1
  refine RW.cutq (σ := Int) (fun y2 => [(1, .int .i64 y2)]) (fun y2 => []) (fun y => y5 = .inr y) (fun _ _ _ _ g h => RW.gh g h) ?_ ?_
  ·refine RW.blk ?_
   refine RW.iter (σ := Int × Int) ey5 (fun s1 => [(0, .lst false 9 (fl (enc_TItem false) x0) x0.length), (1, .int .i64 s1.1), (5, .int .i64 s1.2)]) (fun s1 => []) (Gh.ren0 [] .nil rfl (.cons rfl (.dat (ek_TItem.rlst)) (.cons rfl (.dat .int) (.cons rfl (.dat .int) .nil)))) (fun s1 B o hS2 hB2 hE2 => ?_)
   unfold S_laws_szItemS_1 at hS2
   refine RW.seq (RW.sreg (rl.run 3 rfl ?_))
   refine rl.gen rfl rfl fun b hb => ?_
   cases b
   ·have h4 := iteBF hS2 hb
    refine rl.done (RW.cond_f rfl (RW.exit (blkA_eq ?_)))
    cases h4
    exact ⟨_, (hE2 _ rfl).symm, (Gh.ren0 [] .nil rfl (.cons rfl (.dat .int) .nil))⟩
   ·have h5 := iteBT hS2 hb
    refine rl.done (RW.cond_t rfl (RW.skip (RW.seq (RW.blk (RW.sreg (rl.run 2 rfl ?_))))))
    obtain ⟨v3, e3, h6⟩ := bindS h5
    refine rl.op (x_ia_lst (enc := enc_TItem) (o := false) rfl rfl rfl e3) ?_
    refine rl.op (x_ld_ela (off' := 0) (vs := (enc_TItem false v3)) ek_TItem rfl e3 rfl rfl rfl) ?_
    refine rl.run 1 rfl ?_
    obtain ⟨v4, e4, h7⟩ := bindS h6
    refine rl.call rfl rfl rfl (CallW.val (r' := .int .i64 v4) ok_laws_szItem (law_laws_szItem e4) (.cons (.dat (.agg (ek_TItem.dat false _))) (.cons .int .nil)) .refl ?_)
    refine rl.run 1 rfl (rl.done (RW.sreg (rl.run 1 rfl ?_)))
    refine rl.gen rfl rfl fun b hb => ?_
    cases b
    ·have h8 := iteBF h7 hb
     refine rl.done ?_
     refine RW.keep [0, 1, 5, 25] (a' := [(0, .lst false 9 (fl (enc_TItem false) x0) x0.length), (1, .int .i64 v4), (5, .int .i64 s1.2), (25, .bool false)]) (H' := []) rfl rfl ?_
     refine RW.cond_f rfl (RW.skip (RW.reg (rl.run 3 rfl (rl.done ?_))))
     cases h8
     exact hB2 _ rfl _ _ (Gh.ren0 [] .nil rfl (.cons rfl (.dat (ek_TItem.rlst)) (.cons rfl (.dat .int) (.cons rfl (.dat .int) .nil))))
    ·have h9 := iteBT h7 hb
     refine rl.done ?_
     refine RW.keep [0, 1, 5, 25] (a' := [(0, .lst false 9 (fl (enc_TItem false) x0) x0.length), (1, .int .i64 v4), (5, .int .i64 s1.2), (25, .bool true)]) (H' := []) rfl rfl ?_
     refine RW.cond_t rfl (RW.sreg (rl.run 1 rfl (rl.done (RW.ret ?_))))
     cases h9
     have h10 := elimL h3 (hE2 _ rfl)
     cases h10
     exact RRet.mk rfl .int (by first | decide | simp)
  ·intro y2 hC
   have h3 := elimR h3 hC
   refine RW.sreg (rl.run 2 rfl (rl.done (RW.ret ?_)))
   cases h3
   exact RRet.mk rfl .int (by first | decide | simp)
 ·have h11 := iteBT hF hb
  refine rl.done (RW.cond_t rfl (RW.sreg (rl.run 1 rfl (rl.done (RW.ret ?_)))))
  cases h11
  exact RRet.mk rfl .int (by first | decide | simp)
theorem law_laws_toRec {x0 : TRec} {r : TRec} (hF : F_laws_toRec x0 = some r) : PCalls Try.prog 55 [.agg (enc_TRec false x0)] (.agg (enc_TRec true r)) := by
 refine PCalls.of_r k_laws_toRec rfl ?_
 unfold F_laws_toRec at hF
 refine RW.sreg (rl.run 2 rfl (rl.done (RW.sreg (rl.run 1 rfl (rl.done (RW.sreg (rl.run 4 rfl (rl.done (RW.sreg (rl.run 4 rfl (rl.done ?_)))))))))))
 refine RW.sreg (rl.run 4 rfl (rl.done (RW.sreg (rl.run 4 rfl (rl.done ?_)))))
 refine RW.keep [1, 2, 3] (a' := [(1, .ptr 0 0), (2, .ptr 1 0), (3, .ptr 2 0)]) (H' := [some ⟨[.int .i64 x0.Kind, .int .i64 x0.Valid, .int .i64 x0.Uid, .int .i64 x0.Next, .int .i64 x0.Flags, .str x0.User, .str x0.Name, .str x0.Text], 0⟩, some ⟨[.int .i64 0, .int .i64 0, .int .i64 0, .int .i64 0, .int .i64 0, .str [], .str [], .str []], 0⟩, some ⟨[.int .i64 x0.Kind, .int .i64 x0.Valid, .int .i64 x0.Uid, .int .i64 x0.Next, .int .i64 0, .str [], .str [], .str []], 0⟩]) rfl rfl ?_
 refine RW.sreg (rl.run 4 rfl (rl.done (RW.sreg (rl.run 4 rfl (rl.done (RW.sreg (rl.run 4 rfl (rl.done (RW.sreg (rl.run 4 rfl (rl.done ?_)))))))))))
 refine RW.keep [2, 3] (a' := [(2, .ptr 1 0), (3, .ptr 2 0)]) (H' := [some ⟨[.int .i64 x0.Kind, .int .i64 x0.Valid, .int .i64 x0.Uid, .int .i64 x0.Next, .int .i64 x0.Flags, .str x0.User, .str x0.Name, .str x0.Text], 0⟩, some ⟨[.int .i64 0, .int .i64 0, .int .i64 0, .int .i64 0, .int .i64 0, .str [], .str [], .str []], 0⟩, some ⟨[.int .i64 x0.Kind, .int .i64 x0.Valid, .int .i64 x0.Uid, .int .i64 x0.Next, .int .i64 x0.Flags, .str x0.User, .str x0.Name, .str x0.Text], 0⟩]) rfl rfl ?_
 refine RW.sreg (rl.run 2 rfl (rl.done (RW.ret ?_)))
 cases hF
 exact RRet.mk rfl (OutL.agg (.cons .int rfl (.cons .int rfl (.cons .int rfl (.cons .int rfl (.cons .int rfl (.cons .str rfl (.cons .str rfl (.cons .str rfl .nil))))))))) (by first | decide | simp)
theorem law_laws_toItem {x0 : TItem} {r : TItem} (hF : F_laws_toItem x0 = some r) : PCalls Try.prog 33 [.agg (enc_TItem false x0)] (.agg (enc_TItem true r)) := by
 refine PCalls.of_r k_laws_toItem rfl ?_
 unfold F_laws_toItem at hF
 refine RW.sreg (rl.run 2 rfl (rl.done (RW.sreg (rl.run 1 rfl (rl.done (RW.sreg (rl.run 4 rfl (rl.done (RW.sreg (rl.run 2 rfl ?_))))))))))
 obtain ⟨v1, e1, h1⟩ := bindS hF
 refine rl.call rfl rfl rfl (CallW.val (r' := .agg (enc_TRec false v1)) ok_laws_toRec (law_laws_toRec e1) (.cons (DFL.agg (.cons .int (.cons .int (.cons .int (.cons .int (.cons .int (.cons .str (.cons .str (.cons .str .nil))))))))) .nil) .refl ?_)
 refine rl.run 2 rfl (rl.done (RW.sreg (rl.run 2 rfl (rl.done ?_))))
 refine RW.keep [2] (a' := [(2, .ptr 1 0)]) (H' := [some ⟨[.int .i64 x0.Seq, .int .i64 x0.Rec.Kind, .int .i64 x0.Rec.Valid, .int .i64 x0.Rec.Uid, .int .i64 x0.Rec.Next, .int .i64 x0.Rec.Flags, .str x0.Rec.User, .str x0.Rec.Name, .str x0.Rec.Text], 0⟩, some ⟨[.int .i64 x0.Seq, .int .i64 v1.Kind, .int .i64 v1.Valid, .int .i64 v1.Uid, .int .i64 v1.Next, .int .i64 v1.Flags, .str v1.User, .str v1.Name, .str v1.Text], 0⟩, some ⟨[.int .i64 x0.Seq, .int .i64 v1.Kind, .int .i64 v1.Valid, .int .i64 v1.Uid, .int .i64 v1.Next, .int .i64 v1.Flags, .str v1.User, .str v1.Name, .str v1.Text], 0⟩]) rfl rfl ?_
 refine RW.ret ?_
 cases h1
 exact RRet.mk rfl (OutL.agg (.cons .int rfl (.cons .int rfl (.cons .int rfl (.cons .int rfl (.cons .int rfl (.cons .int rfl (.cons .str rfl (.cons .str rfl (.cons .str rfl .nil)))))))))) (by first | decide | simp)
theorem law_laws_toItemS {x0 : List TItem} {r : List TItem} (hF : F_laws_toItemS x0 = some r) : PCalls Try.prog 8 [.lst false 9 (fl (enc_TItem false) x0) x0.length] (.lst true 9 (fl (enc_TItem true) r) r.length) := by
 refine PCalls.of_r k_laws_toItemS rfl ?_
 unfold F_laws_toItemS at hF
 refine RW.sreg (rl.run 1 rfl (rl.done (RW.sreg (rl.run 2 rfl ?_))))
 obtain ⟨v1, e1, h1⟩ := bindS hF
 refine rl.op (x_ms ek_TItem rfl rfl e1 rfl) ?_
 refine rl.run 1 rfl (rl.done (RW.seq (RW.sreg (rl.run 1 rfl (rl.done ?_)))))
 obtain ⟨y8, ey8, h3⟩ := bindS h1
 refine RW.cutq (σ := (List TItem)) (fun y3 => [(3, .sl 0 0 y3.length)]) (fun y3 => [some ⟨fl (enc_TItem true) y3, 9⟩]) (fun y => y8 = y) (fun _ _ _ _ g h => RW.gh g h) ?_ ?_
 ·refine RW.blk ?_
  refine RW.iter (σ := Int × (List TItem)) ey8 (fun s2 => [(0, .lst false 9 (fl (enc_TItem false) x0) x0.length), (3, .sl 0 0 s2.2.length), (4, .int .i64 s2.1)]) (fun s2 => [some ⟨fl (enc_TItem true) s2.2, 9⟩]) (Gh.ren0 [0] (.same rfl (ek_TItem.fref _ _) .nil) rfl (.cons rfl (.dat (ek_TItem.rlst)) (.cons rfl (.slq rfl rfl) (.cons rfl (.dat .int) .nil)))) (fun s2 B o hS2 hB2 hE2 => ?_)
  unfold S_laws_toItemS_1 at hS2
  refine RW.seq (RW.sreg (rl.run 3 rfl ?_))
  refine rl.gen rfl rfl fun b hb => ?_
  cases b
  ·have h4 := iteBF hS2 hb
   refine rl.done (RW.cond_f rfl (RW.exit (blkA_eq ?_)))
   cases h4
   exact ⟨_, (hE2 _ rfl).symm, (Gh.ren0 [0] (.same rfl (ek_TItem.fref _ _) .nil) rfl (.cons rfl (.slq rfl rfl) .nil))⟩
  ·have h5 := iteBT hS2 hb
   refine rl.done (RW.cond_t rfl (RW.skip (RW.seq (RW.blk (RW.reg (rl.run 4 rfl ?_))))))
   obtain ⟨v4, e4, h6⟩ := bindS h5
   refine rl.op (x_ia_lst (enc := enc_TItem) (o := false) rfl rfl rfl e4) ?_
   refine rl.op (x_ld_ela (off' := 0) (vs := (enc_TItem false v4)) ek_TItem rfl e4 rfl rfl rfl) ?_
   obtain ⟨v5, e5, h7⟩ := bindS h6
   refine rl.call rfl rfl rfl (CallW.val (r' := .agg (enc_TItem false v5)) ok_laws_toItem (law_laws_toItem e5) (.cons (.dat (.agg (ek_TItem.dat false _))) .nil) .refl ?_)
   obtain ⟨v6, e6, h8⟩ := bindS h7
   refine rl.op (x_ia_sl rfl rfl rfl rfl e6) ?_
   obtain ⟨v7, e7, h9⟩ := bindS h8
   refine rl.op0 (x_st_sl' (off' := 0) (o := true) (e' := v5) ek_TItem e6 rfl rfl rfl rfl rfl rfl rfl rfl rfl e7) ?_
   refine rl.done (RW.reg (rl.run 3 rfl (rl.done ?_)))
   cases h9
   exact hB2 _ rfl _ _ (Gh.ren0 [0] (.same rfl (ek_TItem.fref _ _) .nil) rfl (.cons rfl (.dat (ek_TItem.rlst)) (.cons rfl (.slq rfl (set'_len e7)) (.cons rfl (.dat .int) .nil))))
 ·intro y3 hC
  subst hC
  refine RW.sreg (rl.run 2 rfl (rl.done (RW.ret ?_)))
  cases h3
  exact RRet.mk rfl (OutR.ownq ek_TItem rfl rfl) (by first | decide | simp)
set_option maxHeartbeats 2000000 in
theorem law_laws_FnExactShrunk {x0 : List TItem} {x1 : List Bool} {x2 : Int} {r : Bool} (hF : F_laws_FnExactShrunk x0 x1 x2 = some r) : PCalls Try.prog 5 [.lst false 9 (fl (enc_TItem false) x0) x0.length, .lst false 1 (fl (encO false) x1) x1.length, .int .i64 x2] (.bool r) := by
 refine PCalls.of_r k_laws_FnExactShrunk rfl ?_
 unfold F_laws_FnExactShrunk at hF
 refine RW.sreg (rl.run 1 rfl (rl.done (RW.seq (RW.sreg (rl.run 2 rfl ?_)))))
 refine rl.gen rfl rfl fun b hb => ?_
 cases b
 ·have h1 := iteBF hF hb
  refine rl.done (RW.cond_f rfl (RW.skip (RW.sreg (rl.run 1 rfl (rl.done (RW.sreg (rl.run 2 rfl ?_)))))))
  obtain ⟨v1, e1, h2⟩ := bindS h1
  refine rl.call rfl rfl rfl (CallW.val (r' := .int .i64 v1) ok_laws_szItemS (law_laws_szItemS e1) (.cons (.lst ek_TItem) (.cons .int .nil)) .refl ?_)
  refine rl.run 1 rfl (rl.done (RW.seq (RW.sreg (rl.run 1 rfl ?_))))
  refine rl.gen rfl rfl fun b hb => ?_
  cases b
  ·have h3 := iteBF h2 hb
   refine rl.done (RW.cond_f rfl (RW.skip (RW.sreg (rl.run 1 rfl ?_))))
   obtain ⟨v2, e2, h4⟩ := bindS h3
   refine rl.call rfl rfl rfl (CallW.val (r' := .lst false 9 (fl (enc_TItem false) v2) v2.length) ok_laws_toItemS (law_laws_toItemS e2) (.cons (.lst ek_TItem) .nil) (ek_TItem.fflag _).lst ?_)
   refine rl.run 1 rfl ?_
   obtain ⟨v3, e3, h5⟩ := bindS h4
   refine rl.call rfl rfl rfl (CallW.val (r' := .lst false 1 (fl (encO false) v3) v3.length) ok_laws_toBoolS (law_laws_toBoolS e3) (.cons (.lst ekO) .nil) (ekO.fflag _).lst ?_)
   refine rl.run 1 rfl ?_
   obtain ⟨v4, e4, h6⟩ := bindS h5
   refine rl.call rfl rfl rfl (CallW.val (r' := .lst false 9 (fl (enc_TItem false) v4) v4.length) ok_spec_Shrunk (law_spec_Shrunk e4) (.cons (.lst ek_TItem) (.cons (.lst ekO) (.cons .int .nil))) (ek_TItem.fflag _).lst ?_)
   refine rl.run 1 rfl (rl.done ?_)
   refine RW.keep [0, 1, 2, 8] (a' := [(0, .lst false 9 (fl (enc_TItem false) x0) x0.length), (1, .lst false 1 (fl (encO false) x1) x1.length), (2, .int .i64 x2), (8, .lst false 9 (fl (enc_TItem false) v4) v4.length)]) (H' := []) rfl rfl ?_
   refine RW.sreg (rl.run 1 rfl ?_)
   obtain ⟨v5, e5, h7⟩ := bindS h6
   refine rl.call rfl rfl rfl (CallW.own (r' := .sl 0 0 v5.length) (H' := [some ⟨fl (enc_TItem true) v5, 9⟩]) ok_laws_toItemS (law_laws_toItemS e5) (.cons (.lst ek_TItem) .nil) (.lst (ek_TItem.fown _)) rfl ?_)
   refine rl.run 1 rfl (rl.done (RW.sreg (rl.run 1 rfl ?_)))
   obtain ⟨v6, e6, h8⟩ := bindS h7
   refine rl.call rfl rfl rfl (CallW.own (r' := .sl 1 0 v6.length) (H' := [some ⟨fl (enc_TItem true) v5, 9⟩, some ⟨fl (encO true) v6, 1⟩]) ok_laws_toBoolS (law_laws_toBoolS e6) (.cons (.lst ekO) .nil) (.lst (ekO.fown _)) rfl ?_)
   refine rl.run 1 rfl (rl.done (RW.sreg (rl.run 3 rfl ?_)))
   obtain ⟨v7, e7, h9⟩ := bindS h8
   refine rl.call rfl rfl rfl (CallW.own (r' := .sl 2 0 v7.length) (H' := [some ⟨fl (enc_TItem true) v5, 9⟩, some ⟨fl (encO true) v6, 1⟩, some ⟨fl (enc_TItem true) v7, 9⟩]) ok_impl_Shrunk (law_impl_Shrunk e7) (.cons (.slq ek_TItem rfl rfl) (.cons (.slq ekO rfl rfl) (.cons .int .nil))) (.lst (ek_TItem.fown _)) rfl ?_)
   refine rl.run 1 rfl (rl.done (RW.seq (RW.sreg (rl.run 2 rfl ?_))))
   obtain ⟨v8, e8, h10⟩ := bindS h9
   refine rl.call rfl rfl rfl (CallW.val (r' := .bool v8) ok_laws_eqItemS (law_laws_eqItemS e8) (.cons (.slq ek_TItem rfl rfl) (.cons (.lst ek_TItem) .nil)) .refl ?_)
   cases hb : v8
   ·have h11 := iteBF h10 hb
    refine rl.run 1 rfl (rl.done ?_)
    refine RW.keep [0, 1, 2, 8, 9, 10, 11, 41] (a' := [(0, .lst false 9 (fl (enc_TItem false) x0) x0.length), (1, .lst false 1 (fl (encO false) x1) x1.length), (2, .int .i64 x2), (8, .lst false 9 (fl (enc_TItem false) v4) v4.length), (9, .sl 0 0 v5.length), (10, .sl 1 0 v6.length), (11, .sl 2 0 v7.length), (41, .bool true)]) (H' := [some ⟨fl (enc_TItem true) v5, 9⟩, some ⟨fl (encO true) v6, 1⟩, some ⟨fl (enc_TItem true) v7, 9⟩]) rfl rfl ?_
    refine RW.cond_t rfl (RW.sreg (rl.run 1 rfl (rl.done (RW.ret ?_))))
    cases h11
    exact RRet.mk rfl .bool (by first | decide | simp)
   ·have h12 := iteBT h10 hb
    refine rl.run 1 rfl (rl.done ?_)
    refine RW.keep [0, 1, 2, 8, 9, 10, 11, 41] (a' := [(0, .lst false 9 (fl (enc_TItem false) x0) x0.length), (1, .lst false 1 (fl (encO false) x1) x1.length), (2, .int .i64 x2), (8, .lst false 9 (fl (enc_TItem false) v4) v4.length), (9, .sl 0 0 v5.length), (10, .sl 1 0 v6.length), (11, .sl 2 0 v7.length), (41, .bool false)]) (H' := [some ⟨fl (enc_TItem true) v5, 9⟩, some ⟨fl (encO true) v6, 1⟩, some ⟨fl (enc_TItem true) v7, 9⟩]) rfl rfl ?_
    refine RW.cond_f rfl (RW.skip (RW.seq (RW.sreg (rl.run 2 rfl ?_))))
    obtain ⟨v9, e9, h13⟩ := bindS h12
    refine rl.call rfl rfl rfl (CallW.val (r' := .lst false 9 (fl (enc_TItem false) v9) v9.length) ok_laws_toItemS (law_laws_toItemS e9) (.cons (.lst ek_TItem) .nil) (ek_TItem.fflag _).lst ?_)
    obtain ⟨v10, e10, h14⟩ := bindS h13
    refine rl.call rfl rfl rfl (CallW.val (r' := .bool v10) ok_laws_eqItemS (law_laws_eqItemS e10) (.cons (.slq ek_TItem rfl rfl) (.cons (.lst ek_TItem) .nil)) .refl ?_)
    cases hb : v10
    ·have h15 := iteBF h14 hb
     refine rl.run 1 rfl (rl.done (RW.cond_t rfl (RW.sreg (rl.run 1 rfl (rl.done ?_)))))
     refine RW.keep [6] (a' := [(6, .bool false)]) (H' := [some ⟨fl (enc_TItem true) v5, 9⟩, some ⟨fl (encO true) v6, 1⟩, some ⟨fl (enc_TItem true) v7, 9⟩]) rfl rfl ?_
     refine RW.ret ?_
     cases h15
     exact RRet.mk rfl .bool (by first | decide | simp)
    ·have h16 := iteBT h14 hb
     refine rl.run 1 rfl (rl.done (RW.cond_f rfl (RW.skip (RW.seq (RW.sreg (rl.run 2 rfl ?_))))))
     obtain ⟨v11, e11, h17⟩ := bindS h16
     refine rl.call rfl rfl rfl (CallW.val (r' := .lst false 1 (fl (encO false) v11) v11.length) ok_laws_toBoolS (law_laws_toBoolS e11) (.cons (.lst ekO) .nil) (ekO.fflag _).lst ?_)
     obtain ⟨v12, e12, h18⟩ := bindS h17
     refine rl.call rfl rfl rfl (CallW.val (r' := .bool v12) ok_laws_eqBoolS (law_laws_eqBoolS e12) (.cons (.slq ekO rfl rfl) (.cons (.lst ekO) .nil)) .refl ?_)
     cases hb : v12
     ·have h19 := iteBF h18 hb
      refine rl.run 1 rfl (rl.done (RW.cond_t rfl (RW.sreg (rl.run 1 rfl (rl.done ?_)))))
      refine RW.keep [6] (a' := [(6, .bool false)]) (H' := [some ⟨fl (enc_TItem true) v5, 9⟩, some ⟨fl (encO true) v6, 1⟩, some ⟨fl (enc_TItem true) v7, 9⟩]) rfl rfl ?_
      refine RW.ret ?_
      cases h19
      exact RRet.mk rfl .bool (by first | decide | simp)
     ·have h20 := iteBT h18 hb
      refine rl.run 1 rfl (rl.done (RW.cond_f rfl (RW.skip (RW.sreg (rl.run 1 rfl (rl.done ?_))))))
      refine RW.keep [0, 1, 2, 8, 9, 10, 11, 12] (a' := [(0, .lst false 9 (fl (enc_TItem false) x0) x0.length), (1, .lst false 1 (fl (encO false) x1) x1.length), (2, .int .i64 x2), (8, .lst false 9 (fl (enc_TItem false) v4) v4.length), (9, .sl 0 0 v5.length), (10, .sl 1 0 v6.length), (11, .sl 2 0 v7.length), (12, .int .i64 1)]) (H' := [some ⟨fl (enc_TItem true) v5, 9⟩, some ⟨fl (encO true) v6, 1⟩, some ⟨fl (enc_TItem true) v7, 9⟩]) rfl rfl ?_
      refine RW.sreg (rl.run 2 rfl ?_)
      obtain ⟨v13, e13, h21⟩ := bindS h20
      refine rl.call rfl rfl rfl (CallW.embW (r0 := .int .i64 v13.1) (H' := [some ⟨fl (enc_TItem true) v13.2, 9⟩, some ⟨fl (encO true) v6, 1⟩, some ⟨fl (enc_TItem true) v7, 9⟩]) [⟨fl (enc_TItem true) v5, 9⟩] [⟨fl (enc_TItem true) v13.2, 9⟩] [0] ok_laws_markItemS (law_laws_markItemS_w (guardO_s e13)) (.cons rfl (ek_TItem.fref _ _) (ek_TItem.fown _) .nil) rfl (.cons (.slq rfl rfl) (.cons (.dat .int) .nil)) .int rfl rfl ?_)
      refine rl.run 1 rfl (rl.done (RW.sreg (rl.run 2 rfl ?_)))
      obtain ⟨v14, e14, h22⟩ := bindS h21
      refine rl.call rfl rfl rfl (CallW.embW (r0 := .int .i64 v14.1) (H' := [some ⟨fl (enc_TItem true) v13.2, 9⟩, some ⟨fl (encO true) v14.2, 1⟩, some ⟨fl (enc_TItem true) v7, 9⟩]) [⟨fl (encO true) v6, 1⟩] [⟨fl (encO true) v14.2, 1⟩] [1] ok_laws_markBoolS (law_laws_markBoolS_w (guardO_s e14)) (.cons rfl (ekO.fref _ _) (ekO.fown _) .nil) rfl (.cons (.slq rfl rfl) (.cons (.dat .int) .nil)) .int rfl rfl ?_)
      refine rl.run 1 rfl (rl.done (RW.seq (RW.seq ?_)))
      obtain ⟨y15, ey15, h23⟩ := bindS h22
      refine RW.cutq (σ := Bool) (fun y15 => [(0, .lst false 9 (fl (enc_TItem false) x0) x0.length), (1, .lst false 1 (fl (encO false) x1) x1.length), (2, .int .i64 x2), (8, .lst false 9 (fl (enc_TItem false) v4) v4.length), (11, .sl 0 0 v7.length), (65, .bool y15)]) (fun y15 => [some ⟨fl (enc_TItem true) v7, 9⟩]) (fun y => y15 = y) (fun _ _ _ _ g h => RW.gh g h) ?_ ?_
      ·refine RW.reg ?_
       refine rl.run 1 rfl ?_
       refine rl.gen rfl rfl fun b hb => ?_
       cases b
       ·have h24 := iteBF ey15 hb
        refine rl.run 3 rfl ?_
        obtain ⟨v16, e16, h25⟩ := bindS h24
        refine rl.call rfl rfl rfl (CallW.val (r' := .bool v16) ok_laws_eqItemS (law_laws_eqItemS e16) (.cons (.slq ek_TItem rfl rfl) (.cons (.lst ek_TItem) .nil)) .refl ?_)
        cases hb : v16
        ·have h26 := iteBF h25 hb
         refine rl.run 2 rfl (rl.done ?_)
         cases h26
         exact ⟨_, rfl, (Gh.ren0 [2] (.same rfl (ek_TItem.fref _ _) .nil) rfl (.cons rfl (.dat (ek_TItem.rlst)) (.cons rfl (.dat (ekO.rlst)) (.cons rfl (.dat .int) (.cons rfl (.dat (ek_TItem.rlst)) (.cons rfl (.slq rfl rfl) (.cons rfl (.dat .bool) .nil)))))))⟩
        ·have h27 := iteBT h25 hb
         refine rl.run 2 rfl (rl.done ?_)
         cases h27
         exact ⟨_, rfl, (Gh.ren0 [2] (.same rfl (ek_TItem.fref _ _) .nil) rfl (.cons rfl (.dat (ek_TItem.rlst)) (.cons rfl (.dat (ekO.rlst)) (.cons rfl (.dat .int) (.cons rfl (.dat (ek_TItem.rlst)) (.cons rfl (.slq rfl rfl) (.cons rfl (.dat .bool) .nil)))))))⟩
       ·have h28 := iteBT ey15 hb
        refine rl.run 6 rfl (rl.done ?_)
        cases h28
        exact ⟨_, rfl, (Gh.ren0 [2] (.same rfl (ek_TItem.fref _ _) .nil) rfl (.cons rfl (.dat (ek_TItem.rlst)) (.cons rfl (.dat (ekO.rlst)) (.cons rfl (.dat .int) (.cons rfl (.dat (ek_TItem.rlst)) (.cons rfl (.slq rfl rfl) (.cons rfl (.dat .bool) .nil)))))))⟩
      ·intro y hC
       subst hC
       cases hb : y15
       ·have h29 := iteBF h23 hb
        refine RW.cond_f rfl (RW.skip (RW.sreg (rl.run 1 rfl (rl.done (RW.sreg (rl.run 2 rfl ?_))))))
        obtain ⟨v17, e17, h30⟩ := bindS h29
        refine rl.call rfl rfl rfl (CallW.embW (r0 := .int .i64 v17.1) (H' := [some ⟨fl (enc_TItem true) v17.2, 9⟩]) [⟨fl (enc_TItem true) v7, 9⟩] [⟨fl (enc_TItem true) v17.2, 9⟩] [0] ok_laws_markItemS (law_laws_markItemS_w (guardO_s e17)) (.cons rfl (ek_TItem.fref _ _) (ek_TItem.fown _) .nil) rfl (.cons (.slq rfl rfl) (.cons (.dat .int) .nil)) .int rfl rfl ?_)
        refine rl.run 1 rfl (rl.done (RW.sreg (rl.run 1 rfl (rl.done (RW.sreg (rl.run 2 rfl ?_))))))
        obtain ⟨v18, e18, h31⟩ := bindS h30
        refine rl.call rfl rfl rfl (CallW.val (r' := .int .i64 v18) ok_laws_heldItemS (law_laws_heldItemS e18) (.cons (.slq ek_TItem rfl (guardO_p (p := fun r : Int × (List TItem) => v7.length = r.2.length) e17)) (.cons .int .nil)) .refl ?_)
        refine rl.run 1 rfl (rl.done (RW.seq (RW.sreg (rl.run 1 rfl ?_))))
        refine rl.gen rfl rfl fun b hb => ?_
        cases b
        ·have h32 := iteBF h31 hb
         refine rl.done (RW.cond_f rfl (RW.skip (RW.seq (RW.sreg (rl.run 2 rfl ?_)))))
         refine rl.gen rfl rfl fun b hb => ?_
         cases b
         ·have h33 := iteBF h32 hb
          refine rl.done ?_
          refine RW.keep [0, 1, 2, 8, 11, 13, 76] (a' := [(0, .lst false 9 (fl (enc_TItem false) x0) x0.length), (1, .lst false 1 (fl (encO false) x1) x1.length), (2, .int .i64 x2), (8, .lst false 9 (fl (enc_TItem false) v4) v4.length), (11, .sl 0 0 v7.length), (13, .int .i64 v17.1), (76, .bool false)]) (H' := [some ⟨fl (enc_TItem true) v17.2, 9⟩]) rfl rfl ?_
          refine RW.cond_f rfl (RW.skip (RW.sreg (rl.run 1 rfl ?_)))
          obtain ⟨v19, e19, h34⟩ := bindS h33
          refine rl.call rfl rfl rfl (CallW.val (r' := .lst false 9 (fl (enc_TItem false) v19) v19.length) ok_laws_toItemS (law_laws_toItemS e19) (.cons (.lst ek_TItem) .nil) (ek_TItem.fflag _).lst ?_)
          refine rl.run 1 rfl ?_
          obtain ⟨v20, e20, h35⟩ := bindS h34
          refine rl.call rfl rfl rfl (CallW.val (r' := .lst false 1 (fl (encO false) v20) v20.length) ok_laws_toBoolS (law_laws_toBoolS e20) (.cons (.lst ekO) .nil) (ekO.fflag _).lst ?_)
          refine rl.run 1 rfl ?_
          obtain ⟨v21, e21, h36⟩ := bindS h35
          refine rl.call rfl rfl rfl (CallW.val (r' := .lst false 9 (fl (enc_TItem false) v21) v21.length) ok_impl_Shrunk (law_impl_Shrunk e21) (.cons (.lst ek_TItem) (.cons (.lst ekO) (.cons .int .nil))) (ek_TItem.fflag _).lst ?_)
          refine rl.run 1 rfl (rl.done (RW.seq (RW.sreg (rl.run 2 rfl ?_))))
          obtain ⟨v22, e22, h37⟩ := bindS h36
          refine rl.call rfl rfl rfl (CallW.val (r' := .bool v22) ok_laws_eqItemS (law_laws_eqItemS e22) (.cons (.lst ek_TItem) (.cons (.lst ek_TItem) .nil)) .refl ?_)
          cases hb : v22
          ·have h38 := iteBF h37 hb
           refine rl.run 1 rfl (rl.done ?_)
           refine RW.keep [11, 13, 86] (a' := [(11, .sl 0 0 v7.length), (13, .int .i64 v17.1), (86, .bool true)]) (H' := [some ⟨fl (enc_TItem true) v17.2, 9⟩]) rfl rfl ?_
           refine RW.cond_t rfl (RW.sreg (rl.run 1 rfl (rl.done (RW.ret ?_))))
           cases h38
           exact RRet.mk rfl .bool (by first | decide | simp)
          ·have h39 := iteBT h37 hb
           refine rl.run 1 rfl (rl.done ?_)
           refine RW.keep [11, 13, 86] (a' := [(11, .sl 0 0 v7.length), (13, .int .i64 v17.1), (86, .bool false)]) (H' := [some ⟨fl (enc_TItem true) v17.2, 9⟩]) rfl rfl ?_
           refine RW.cond_f rfl (RW.skip (RW.sreg (rl.run 1 rfl (rl.done (RW.sreg (rl.run 2 rfl ?_))))))
           obtain ⟨v23, e23, h40⟩ := bindS h39
           refine rl.call rfl rfl rfl (CallW.val (r' := .int .i64 v23) ok_laws_heldItemS (law_laws_heldItemS e23) (.cons (.slq ek_TItem rfl (guardO_p (p := fun r : Int × (List TItem) => v7.length = r.2.length) e17)) (.cons .int .nil)) .refl ?_)
           refine rl.run 1 rfl (rl.done (RW.seq (RW.sreg (rl.run 1 rfl ?_))))
           refine rl.gen rfl rfl fun b hb => ?_
           cases b
           ·have h41 := iteBF h40 hb
            refine rl.done (RW.cond_f rfl (RW.skip (RW.seq (RW.sreg (rl.run 2 rfl ?_)))))
            refine rl.gen rfl rfl fun b hb => ?_
            cases b
            ·have h42 := iteBF h41 hb
             refine rl.done ?_
             refine RW.keep [94] (a' := [(94, .bool false)]) (H' := [some ⟨fl (enc_TItem true) v17.2, 9⟩]) rfl rfl ?_
             refine RW.cond_f rfl (RW.skip (RW.sreg (rl.run 1 rfl (rl.done (RW.ret ?_)))))
             cases h42
             exact RRet.mk rfl .bool (by first | decide | simp)
            ·have h43 := iteBT h41 hb
             refine rl.done ?_
             refine RW.keep [94] (a' := [(94, .bool true)]) (H' := [some ⟨fl (enc_TItem true) v17.2, 9⟩]) rfl rfl ?_
             refine RW.cond_t rfl (RW.sreg (rl.run 1 rfl (rl.done (RW.ret ?_))))
             cases h43
             exact RRet.mk rfl .bool (by first | decide | simp)
           ·have h44 := iteBT h40 hb
            refine rl.done (RW.cond_t rfl (RW.sreg (rl.run 1 rfl (rl.done (RW.ret ?_)))))
            cases h44
            exact RRet.mk rfl .bool (by first | decide | simp)
         ·have h45 := iteBT h32 hb
          refine rl.done ?_
          refine RW.keep [0, 1, 2, 8, 11, 13, 76] (a' := [(0, .lst false 9 (fl (enc_TItem false) x0) x0.length), (1, .lst false 1 (fl (encO false) x1) x1.length), (2, .int .i64 x2), (8, .lst false 9 (fl (enc_TItem false) v4) v4.length), (11, .sl 0 0 v7.length), (13, .int .i64 v17.1), (76, .bool true)]) (H' := [some ⟨fl (enc_TItem true) v17.2, 9⟩]) rfl rfl ?_
          refine RW.cond_t rfl (RW.sreg (rl.run 1 rfl (rl.done (RW.ret ?_))))
          cases h45
          exact RRet.mk rfl .bool (by first | decide | simp)
        ·have h46 := iteBT h31 hb
         refine rl.done (RW.cond_t rfl (RW.sreg (rl.run 1 rfl (rl.done ?_))))
         refine RW.keep [6] (a' := [(6, .bool false)]) (H' := [some ⟨fl (enc_TItem true) v17.2, 9⟩]) rfl rfl ?_
         refine RW.ret ?_
         cases h46
         exact RRet.mk rfl .bool (by first | decide | simp)
       ·have h47 := iteBT h23 hb
        refine RW.cond_t rfl (RW.sreg (rl.run 1 rfl (rl.done (RW.ret ?_))))
        cases h47
        exact RRet.mk rfl .bool (by first | decide | simp)
  ·have h48 := iteBT h2 hb
   refine rl.done (RW.cond_t rfl (RW.sreg (rl.run 1 rfl (rl.done ?_))))
   refine RW.keep [6] (a' := [(6, .bool true)]) (H' := []) rfl rfl ?_
   refine RW.ret ?_
   cases h48
   exact RRet.mk rfl .bool (by first | decide | simp)
 ·have h49 := iteBT hF hb
  refine rl.done (RW.cond_t rfl (RW.sreg (rl.run 1 rfl (rl.done (RW.ret ?_)))))
  cases h49
  exact RRet.mk rfl .bool (by first | decide | simp)
end Go.Proofs.Ytcehlicmghnghaa.V
