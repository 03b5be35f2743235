/- What a call comes to. -/
import Derived.Test.YtcehlicmghnghaaGreatXD1
namespace Go.Proofs.YtcehlicmghnghaaGreat.V
open Go Go.Proofs Go.RowKit
set_option maxRecDepth 100000
set_option maxHeartbeats 2000000 in
theorem law_laws_heldMailS {x0 : List TMail} {x1 : Int} {r : Int} (hF : F_laws_heldMailS x0 x1 = some r) : PCalls Tryz.prog 109 [.lst false 3 (fl (enc_TMail false) x0) x0.length, .int .i64 x1] (.int .i64 r) := by
 refine PCalls.of_r k_laws_heldMailS rfl ?_
 unfold F_laws_heldMailS at hF
 refine RW.sreg (rl.run 1 rfl (rl.done (RW.seq (RW.sreg (rl.run 1 rfl (rl.done ?_))))))
 obtain ⟨y7, ey7, h2⟩ := bindS hF
 refine RW.cutq (σ := Int) (fun y2 => [(1, .int .i64 y2)]) (fun y2 => []) (fun y => y7 = .inr y) (fun _ _ _ _ g h => RW.gh g h) ?_ ?_
 ·refine RW.blk ?_
  refine RW.iter (σ := Int × Int) ey7 (fun s1 => [(0, .lst false 3 (fl (enc_TMail false) x0) x0.length), (1, .int .i64 s1.1), (5, .int .i64 s1.2)]) (fun s1 => []) (Gh.ren0 [] .nil rfl (.cons rfl (.dat (ek_TMail.rlst)) (.cons rfl (.dat .int) (.cons rfl (.dat .int) .nil)))) (fun s1 B o hS1 hB1 hE1 => ?_)
  unfold S_laws_heldMailS_1 at hS1
  refine RW.seq (RW.sreg (rl.run 3 rfl ?_))
  refine rl.gen rfl rfl fun b hb => ?_
  cases b
  ·have h3 := iteBF hS1 hb
   refine rl.done (RW.cond_f rfl (RW.exit (blkA_eq ?_)))
   cases h3
   exact ⟨_, (hE1 _ rfl).symm, (Gh.ren0 [] .nil rfl (.cons rfl (.dat .int) .nil))⟩
  ·have h4 := iteBT hS1 hb
   refine rl.done (RW.cond_t rfl (RW.skip (RW.seq (RW.blk (RW.seq (RW.sreg (rl.run 2 rfl ?_)))))))
   obtain ⟨v3, e3, h5⟩ := bindS h4
   refine rl.op (x_ia_lst (enc := enc_TMail) (o := false) rfl rfl rfl e3) ?_
   refine rl.run 1 rfl ?_
   refine rl.op (x_ld_el (off' := 0) ek_TMail rfl e3 rfl rfl rfl) ?_
   refine rl.run 1 rfl ?_
   refine rl.gen rfl rfl fun b hb => ?_
   cases b
   ·have h6 := iteBF h5 hb
    refine rl.done (RW.cond_f rfl (RW.skip (RW.sreg (rl.run 3 rfl (rl.done ?_)))))
    refine RW.keep [0, 1, 5] (a' := [(0, .lst false 3 (fl (enc_TMail false) x0) x0.length), (1, .int .i64 (w64 (s1.1 + 1))), (5, .int .i64 s1.2)]) (H' := []) rfl rfl ?_
    refine RW.seq (RW.sreg (rl.run 2 rfl ?_))
    obtain ⟨v4, e4, h7⟩ := bindS h6
    refine rl.op (x_ia_lst (enc := enc_TMail) (o := false) rfl rfl rfl e4) ?_
    refine rl.run 1 rfl ?_
    refine rl.op (x_ld_el (off' := 1) ek_TMail rfl e4 rfl rfl rfl) ?_
    refine rl.run 1 rfl ?_
    refine rl.gen rfl rfl fun b hb => ?_
    cases b
    ·have h8 := iteBF h7 hb
     refine rl.done (RW.cond_f rfl (RW.skip (RW.sreg (rl.run 3 rfl (rl.done (RW.seq (RW.sdrw (rdraw.op rfl rfl (rdraw.op rfl rfl ?_)))))))))
     obtain ⟨v5, e5, h9⟩ := bindS h8
     refine rdraw.op rfl (x_ia_lst (enc := enc_TMail) (o := false) rfl rfl rfl e5) ?_
     refine rdraw.op rfl rfl ?_
     refine rdraw.op rfl (x_ld_el (off' := 2) ek_TMail rfl e5 rfl rfl rfl) ?_
     refine rdraw.op rfl rfl ?_
     obtain ⟨v6, e6, h10⟩ := bindS h9
     refine rdraw.call rfl rfl rfl (CallW.val (r' := .str v6) ok_laws_markText (law_laws_markText e6) (.cons .int .nil) .refl ⟨rfl, ?_⟩)
     refine rdraw.gen rfl rfl fun b hb => ?_
     cases b
     ·have h11 := iteBF h10 hb
      refine rdraw.done ?_
      refine RW.keep [0, 1, 5, 37] (a' := [(0, .lst false 3 (fl (enc_TMail false) x0) x0.length), (1, .int .i64 (w64 ((w64 (s1.1 + 1)) + 1))), (5, .int .i64 s1.2), (37, .bool false)]) (H' := []) rfl rfl ?_
      refine RW.cond_f rfl (RW.skip (RW.reg (rl.run 3 rfl (rl.done (RW.reg (rl.run 3 rfl (rl.done ?_)))))))
      cases h11
      exact hB1 _ rfl _ _ (Gh.ren0 [] .nil rfl (.cons rfl (.dat (ek_TMail.rlst)) (.cons rfl (.dat .int) (.cons rfl (.dat .int) .nil))))
     ·have h12 := iteBT h10 hb
      refine rdraw.done ?_
      refine RW.keep [0, 1, 5, 37] (a' := [(0, .lst false 3 (fl (enc_TMail false) x0) x0.length), (1, .int .i64 (w64 ((w64 (s1.1 + 1)) + 1))), (5, .int .i64 s1.2), (37, .bool true)]) (H' := []) rfl rfl ?_
      refine RW.cond_t rfl (RW.sreg (rl.run 1 rfl (rl.done (RW.ret ?_))))
      cases h12
      have h13 := elimL h2 (hE1 _ rfl)
      cases h13
      exact RRet.mk rfl .int (by first | decide | simp)
    ·have h14 := iteBT h7 hb
     refine rl.done (RW.cond_t rfl (RW.sreg (rl.run 1 rfl (rl.done (RW.ret ?_)))))
     cases h14
     have h15 := elimL h2 (hE1 _ rfl)
     cases h15
     exact RRet.mk rfl .int (by first | decide | simp)
   ·have h16 := iteBT h5 hb
    refine rl.done (RW.cond_t rfl (RW.sreg (rl.run 1 rfl (rl.done ?_))))
    refine RW.keep [4] (a' := [(4, .int .i64 (-1))]) (H' := []) rfl rfl ?_
    refine RW.ret ?_
    cases h16
    have h17 := elimL h2 (hE1 _ rfl)
    cases h17
    exact RRet.mk rfl .int (by first | decide | simp)
 ·intro y2 hC
  have h2 := elimR h2 hC
  refine RW.sreg (rl.run 2 rfl (rl.done (RW.ret ?_)))
  cases h2
  exact RRet.mk rfl .int (by first | decide | simp)
set_option maxHeartbeats 2000000 in
theorem law_laws_heldBoxS {x0 : List TBox} {x1 : Int} {r : Int} (hF : F_laws_heldBoxS x0 x1 = some r) : PCalls Tryz.prog 57 [.lst false 5 (fl (enc_TBox false) x0) x0.length, .int .i64 x1] (.int .i64 r) := by
 refine PCalls.of_r k_laws_heldBoxS rfl ?_
 unfold F_laws_heldBoxS at hF
 refine RW.sreg (rl.run 1 rfl (rl.done (RW.seq (RW.sreg (rl.run 1 rfl (rl.done ?_))))))
 obtain ⟨y11, ey11, h2⟩ := bindS hF
 refine RW.cutq (σ := Int) (fun y2 => [(1, .int .i64 y2)]) (fun y2 => []) (fun y => y11 = .inr y) (fun _ _ _ _ g h => RW.gh g h) ?_ ?_
 ·refine RW.blk ?_
  refine RW.iter (σ := Int × Int) ey11 (fun s1 => [(0, .lst false 5 (fl (enc_TBox false) x0) x0.length), (1, .int .i64 s1.1), (5, .int .i64 s1.2)]) (fun s1 => []) (Gh.ren0 [] .nil rfl (.cons rfl (.dat (ek_TBox.rlst)) (.cons rfl (.dat .int) (.cons rfl (.dat .int) .nil)))) (fun s1 B o hS1 hB1 hE1 => ?_)
  unfold S_laws_heldBoxS_1 at hS1
  refine RW.seq (RW.sreg (rl.run 3 rfl ?_))
  refine rl.gen rfl rfl fun b hb => ?_
  cases b
  ·have h3 := iteBF hS1 hb
   refine rl.done (RW.cond_f rfl (RW.exit (blkA_eq ?_)))
   cases h3
   exact ⟨_, (hE1 _ rfl).symm, (Gh.ren0 [] .nil rfl (.cons rfl (.dat .int) .nil))⟩
  ·have h4 := iteBT hS1 hb
   refine rl.done (RW.cond_t rfl (RW.skip (RW.seq (RW.blk (RW.seq (RW.sreg (rl.run 2 rfl ?_)))))))
   obtain ⟨v3, e3, h5⟩ := bindS h4
   refine rl.op (x_ia_lst (enc := enc_TBox) (o := false) rfl rfl rfl e3) ?_
   refine rl.run 1 rfl ?_
   refine rl.op (x_ld_el (off' := 0) ek_TBox rfl e3 rfl rfl rfl) ?_
   refine rl.run 1 rfl ?_
   refine rl.gen rfl rfl fun b hb => ?_
   cases b
   ·have h6 := iteBF h5 hb
    refine rl.done (RW.cond_f rfl (RW.skip (RW.sreg (rl.run 3 rfl (rl.done ?_)))))
    refine RW.keep [0, 1, 5] (a' := [(0, .lst false 5 (fl (enc_TBox false) x0) x0.length), (1, .int .i64 (w64 (s1.1 + 1))), (5, .int .i64 s1.2)]) (H' := []) rfl rfl ?_
    refine RW.seq (RW.sdrw (rdraw.op rfl rfl (rdraw.op rfl rfl ?_)))
    obtain ⟨v4, e4, h7⟩ := bindS h6
    refine rdraw.op rfl (x_ia_lst (enc := enc_TBox) (o := false) rfl rfl rfl e4) ?_
    refine rdraw.op rfl rfl ?_
    refine rdraw.op rfl (x_ld_el (off' := 1) ek_TBox rfl e4 rfl rfl rfl) ?_
    refine rdraw.op rfl rfl ?_
    obtain ⟨v5, e5, h8⟩ := bindS h7
    refine rdraw.call rfl rfl rfl (CallW.val (r' := .str v5) ok_laws_markText (law_laws_markText e5) (.cons .int .nil) .refl ⟨rfl, ?_⟩)
    refine rdraw.gen rfl rfl fun b hb => ?_
    cases b
    ·have h9 := iteBF h8 hb
     refine rdraw.done (RW.cond_f rfl (RW.skip (RW.sreg (rl.run 3 rfl (rl.done (RW.seq (RW.sdrw (rdraw.op rfl rfl (rdraw.op rfl rfl ?_)))))))))
     obtain ⟨v6, e6, h10⟩ := bindS h9
     refine rdraw.op rfl (x_ia_lst (enc := enc_TBox) (o := false) rfl rfl rfl e6) ?_
     refine rdraw.op rfl rfl ?_
     refine rdraw.op rfl (x_ld_el (off' := 2) ek_TBox rfl e6 rfl rfl rfl) ?_
     refine rdraw.op rfl rfl ?_
     obtain ⟨v7, e7, h11⟩ := bindS h10
     refine rdraw.call rfl rfl rfl (CallW.val (r' := .str v7) ok_laws_markText (law_laws_markText e7) (.cons .int .nil) .refl ⟨rfl, ?_⟩)
     refine rdraw.gen rfl rfl fun b hb => ?_
     cases b
     ·have h12 := iteBF h11 hb
      refine rdraw.done ?_
      refine RW.keep [0, 1, 5, 38] (a' := [(0, .lst false 5 (fl (enc_TBox false) x0) x0.length), (1, .int .i64 (w64 ((w64 (s1.1 + 1)) + 1))), (5, .int .i64 s1.2), (38, .bool false)]) (H' := []) rfl rfl ?_
      refine RW.cond_f rfl (RW.skip (RW.sreg (rl.run 3 rfl (rl.done (RW.seq (RW.sreg (rl.run 2 rfl ?_)))))))
      obtain ⟨v8, e8, h13⟩ := bindS h12
      refine rl.op (x_ia_lst (enc := enc_TBox) (o := false) rfl rfl rfl e8) ?_
      refine rl.run 1 rfl ?_
      refine rl.op (x_ld_el (off' := 3) ek_TBox rfl e8 rfl rfl rfl) ?_
      refine rl.run 1 rfl ?_
      refine rl.gen rfl rfl fun b hb => ?_
      cases b
      ·have h14 := iteBF h13 hb
       refine rl.done (RW.cond_f rfl (RW.skip (RW.sreg (rl.run 3 rfl (rl.done ?_)))))
       refine RW.keep [0, 1, 5] (a' := [(0, .lst false 5 (fl (enc_TBox false) x0) x0.length), (1, .int .i64 (w64 ((w64 ((w64 ((w64 (s1.1 + 1)) + 1)) + 1)) + 1))), (5, .int .i64 s1.2)]) (H' := []) rfl rfl ?_
       refine RW.sreg (rl.run 2 rfl ?_)
       obtain ⟨v9, e9, h15⟩ := bindS h14
       refine rl.op (x_ia_lst (enc := enc_TBox) (o := false) rfl rfl rfl e9) ?_
       refine rl.run 1 rfl ?_
       refine rl.op (x_ld_el (off' := 4) ek_TBox rfl e9 rfl rfl rfl) ?_
       refine rl.run 1 rfl ?_
       obtain ⟨v10, e10, h16⟩ := bindS h15
       refine rl.call rfl rfl rfl (CallW.val (r' := .int .i64 v10) ok_laws_heldMailS (law_laws_heldMailS e10) (.cons (.lst ek_TMail) (.cons .int .nil)) .refl ?_)
       refine rl.run 1 rfl (rl.done (RW.sreg (rl.run 1 rfl ?_)))
       refine rl.gen rfl rfl fun b hb => ?_
       cases b
       ·have h17 := iteBF h16 hb
        refine rl.done (RW.cond_f rfl (RW.skip (RW.reg (rl.run 3 rfl (rl.done ?_)))))
        cases h17
        exact hB1 _ rfl _ _ (Gh.ren0 [] .nil rfl (.cons rfl (.dat (ek_TBox.rlst)) (.cons rfl (.dat .int) (.cons rfl (.dat .int) .nil))))
       ·have h18 := iteBT h16 hb
        refine rl.done (RW.cond_t rfl (RW.sreg (rl.run 1 rfl (rl.done ?_))))
        refine RW.keep [4] (a' := [(4, .int .i64 (-1))]) (H' := []) rfl rfl ?_
        refine RW.ret ?_
        cases h18
        have h19 := elimL h2 (hE1 _ rfl)
        cases h19
        exact RRet.mk rfl .int (by first | decide | simp)
      ·have h20 := iteBT h13 hb
       refine rl.done (RW.cond_t rfl (RW.sreg (rl.run 1 rfl (rl.done ?_))))
       refine RW.keep [4] (a' := [(4, .int .i64 (-1))]) (H' := []) rfl rfl ?_
       refine RW.ret ?_
       cases h20
       have h21 := elimL h2 (hE1 _ rfl)
       cases h21
       exact RRet.mk rfl .int (by first | decide | simp)
     ·have h22 := iteBT h11 hb
      refine rdraw.done ?_
      refine RW.keep [0, 1, 5, 38] (a' := [(0, .lst false 5 (fl (enc_TBox false) x0) x0.length), (1, .int .i64 (w64 ((w64 (s1.1 + 1)) + 1))), (5, .int .i64 s1.2), (38, .bool true)]) (H' := []) rfl rfl ?_
      refine RW.cond_t rfl (RW.sreg (rl.run 1 rfl (rl.done (RW.ret ?_))))
      cases h22
      have h23 := elimL h2 (hE1 _ rfl)
      cases h23
      exact RRet.mk rfl .int (by first | decide | simp)
    ·have h24 := iteBT h8 hb
     refine rdraw.done (RW.cond_t rfl (RW.sreg (rl.run 1 rfl (rl.done ?_))))
     refine RW.keep [4] (a' := [(4, .int .i64 (-1))]) (H' := []) rfl rfl ?_
     refine RW.ret ?_
     cases h24
     have h25 := elimL h2 (hE1 _ rfl)
     cases h25
     exact RRet.mk rfl .int (by first | decide | simp)
   ·have h26 := iteBT h5 hb
    refine rl.done (RW.cond_t rfl (RW.sreg (rl.run 1 rfl (rl.done ?_))))
    refine RW.keep [4] (a' := [(4, .int .i64 (-1))]) (H' := []) rfl rfl ?_
    refine RW.ret ?_
    cases h26
    have h27 := elimL h2 (hE1 _ rfl)
    cases h27
    exact RRet.mk rfl .int (by first | decide | simp)
 ·intro y2 hC
  have h2 := elimR h2 hC
  refine RW.sreg (rl.run 2 rfl (rl.done (RW.ret ?_)))
  cases h2
  exact RRet.mk rfl .int (by first | decide | simp)
theorem law_laws_heldState {x0 : TState} {x1 : Int} {r : Int} (hF : F_laws_heldState x0 x1 = some r) : PCalls Tryz.prog 23 [.agg (enc_TState false x0), .int .i64 x1] (.int .i64 r) := by
 refine PCalls.of_r k_laws_heldState rfl ?_
 unfold F_laws_heldState at hF
 refine RW.sreg (rl.run 2 rfl (rl.done (RW.sreg (rl.run 3 rfl ?_))))
 obtain ⟨v1, e1, h1⟩ := bindS hF
 refine rl.call rfl rfl rfl (CallW.val (r' := .int .i64 v1) ok_laws_heldBoxS (law_laws_heldBoxS e1) (.cons (.lst ek_TBox) (.cons .int .nil)) .refl ?_)
 refine rl.run 1 rfl (rl.done (RW.seq (RW.sreg (rl.run 1 rfl ?_))))
 refine rl.gen rfl rfl fun b hb => ?_
 cases b
 ·have h2 := iteBF h1 hb
  refine rl.done (RW.cond_f rfl (RW.skip (RW.sreg (rl.run 2 rfl (rl.done (RW.ret ?_))))))
  cases h2
  exact RRet.mk rfl .int (by first | decide | simp)
 ·have h3 := iteBT h1 hb
  refine rl.done (RW.cond_t rfl (RW.sreg (rl.run 1 rfl (rl.done (RW.ret ?_)))))
  cases h3
  exact RRet.mk rfl .int (by first | decide | simp)
set_option maxHeartbeats 2000000 in
theorem law_laws_FnExactStateNow {x0 : TStore} {r : Bool} (hF : F_laws_FnExactStateNow x0 = some r) : PCalls Tryz.prog 5 [.agg (enc_TStore false x0)] (.bool r) := by
 refine PCalls.of_r k_laws_FnExactStateNow rfl ?_
 unfold F_laws_FnExactStateNow at hF
 refine RW.sreg (rl.run 2 rfl (rl.done (RW.sreg (rl.run 1 rfl (rl.done (RW.sreg (rl.run 2 rfl ?_)))))))
 obtain ⟨v1, e1, h1⟩ := bindS hF
 refine rl.call rfl rfl rfl (CallW.val (r' := .int .i64 v1) ok_laws_szStore (law_laws_szStore e1) (.cons (DFL.agg (.cons (.lst ekS) (.cons (.lst ek_TWrite) (.cons .int (.cons (.lst ek_TSeg) (.cons .int (.cons .int (.cons .int (.cons .int (.cons (.lst ekI) .nil)))))))))) (.cons .int .nil)) .refl ?_)
 refine rl.run 1 rfl (rl.done (RW.seq (RW.sreg (rl.run 1 rfl ?_))))
 refine rl.gen rfl rfl fun b hb => ?_
 cases b
 ·have h2 := iteBF h1 hb
  refine rl.done (RW.cond_f rfl (RW.skip (RW.sreg (rl.run 1 rfl ?_))))
  obtain ⟨v2, e2, h3⟩ := bindS h2
  refine rl.call rfl rfl rfl (CallW.val (r' := .agg (enc_TStore false v2)) ok_laws_toStore (law_laws_toStore e2) (.cons (DFL.agg (.cons (.lst ekS) (.cons (.lst ek_TWrite) (.cons .int (.cons (.lst ek_TSeg) (.cons .int (.cons .int (.cons .int (.cons .int (.cons (.lst ekI) .nil)))))))))) .nil) (ek_TStore.flag _).agg ?_)
  obtain ⟨v3, e3, h4⟩ := bindS h3
  refine rl.call rfl rfl rfl (CallW.val (r' := .agg (enc_TState false v3)) ok_spec_StateNow (law_spec_StateNow e3) (.cons (.dat (.agg (ek_TStore.dat false _))) .nil) (ek_TState.flag _).agg ?_)
  refine rl.run 2 rfl (rl.done ?_)
  refine RW.keep [1, 4] (a' := [(1, .ptr 0 0), (4, .ptr 1 0)]) (H' := [some ⟨[.lst false 1 (fl (encS false) x0.Log.Disk.Sectors) x0.Log.Disk.Sectors.length, .lst false 2 (fl (enc_TWrite false) x0.Log.Disk.Cache) x0.Log.Disk.Cache.length, .int .i64 x0.Log.Segs, .lst false 4 (fl (enc_TSeg false) x0.Log.Used) x0.Log.Used.length, .int .i64 x0.Log.NextGen, .int .i64 x0.Log.NextSeq, .int .i64 x0.Log.Stamp, .int .i64 x0.Log.NextValid, .lst false 1 (fl (encI false) x0.Freed) x0.Freed.length], 0⟩, some ⟨[.lst false 5 (fl (enc_TBox false) v3.Boxes) v3.Boxes.length], 0⟩]) rfl rfl ?_
  refine RW.sreg (rl.run 1 rfl ?_)
  obtain ⟨v4, e4, h5⟩ := bindS h4
  refine rl.call rfl rfl rfl (CallW.own (r' := .agg [.sl 2 0 v4.Log.Disk.Sectors.length, .sl 3 0 v4.Log.Disk.Cache.length, .int .i64 v4.Log.Segs, .sl 4 0 v4.Log.Used.length, .int .i64 v4.Log.NextGen, .int .i64 v4.Log.NextSeq, .int .i64 v4.Log.Stamp, .int .i64 v4.Log.NextValid, .sl 5 0 v4.Freed.length]) (H' := [some ⟨[.lst false 1 (fl (encS false) x0.Log.Disk.Sectors) x0.Log.Disk.Sectors.length, .lst false 2 (fl (enc_TWrite false) x0.Log.Disk.Cache) x0.Log.Disk.Cache.length, .int .i64 x0.Log.Segs, .lst false 4 (fl (enc_TSeg false) x0.Log.Used) x0.Log.Used.length, .int .i64 x0.Log.NextGen, .int .i64 x0.Log.NextSeq, .int .i64 x0.Log.Stamp, .int .i64 x0.Log.NextValid, .lst false 1 (fl (encI false) x0.Freed) x0.Freed.length], 0⟩, some ⟨[.lst false 5 (fl (enc_TBox false) v3.Boxes) v3.Boxes.length], 0⟩, some ⟨fl (encS true) v4.Log.Disk.Sectors, 1⟩, some ⟨fl (enc_TWrite true) v4.Log.Disk.Cache, 2⟩, some ⟨fl (enc_TSeg true) v4.Log.Used, 4⟩, some ⟨fl (encI true) v4.Freed, 1⟩]) ok_laws_toStore (law_laws_toStore e4) (.cons (DFL.agg (.cons (.lst ekS) (.cons (.lst ek_TWrite) (.cons .int (.cons (.lst ek_TSeg) (.cons .int (.cons .int (.cons .int (.cons .int (.cons (.lst ekI) .nil)))))))))) .nil) (ek_TStore.own _) rfl ?_)
  refine rl.run 2 rfl (rl.done (RW.sreg (rl.run 1 rfl ?_)))
  obtain ⟨v5, e5, h6⟩ := bindS h5
  refine rl.call rfl rfl rfl (CallW.own (r' := .agg [.sl 7 0 v5.Boxes.length]) (H' := [some ⟨[.lst false 1 (fl (encS false) x0.Log.Disk.Sectors) x0.Log.Disk.Sectors.length, .lst false 2 (fl (enc_TWrite false) x0.Log.Disk.Cache) x0.Log.Disk.Cache.length, .int .i64 x0.Log.Segs, .lst false 4 (fl (enc_TSeg false) x0.Log.Used) x0.Log.Used.length, .int .i64 x0.Log.NextGen, .int .i64 x0.Log.NextSeq, .int .i64 x0.Log.Stamp, .int .i64 x0.Log.NextValid, .lst false 1 (fl (encI false) x0.Freed) x0.Freed.length], 0⟩, some ⟨[.lst false 5 (fl (enc_TBox false) v3.Boxes) v3.Boxes.length], 0⟩, some ⟨fl (encS true) v4.Log.Disk.Sectors, 1⟩, some ⟨fl (enc_TWrite true) v4.Log.Disk.Cache, 2⟩, some ⟨fl (enc_TSeg true) v4.Log.Used, 4⟩, some ⟨fl (encI true) v4.Freed, 1⟩, some ⟨[.sl 2 0 v4.Log.Disk.Sectors.length, .sl 3 0 v4.Log.Disk.Cache.length, .int .i64 v4.Log.Segs, .sl 4 0 v4.Log.Used.length, .int .i64 v4.Log.NextGen, .int .i64 v4.Log.NextSeq, .int .i64 v4.Log.Stamp, .int .i64 v4.Log.NextValid, .sl 5 0 v4.Freed.length], 0⟩, some ⟨fl (enc_TBox true) v5.Boxes, 5⟩]) ok_impl_StateNow (law_impl_StateNow e5) (.cons (DFL.agg (.cons (.slq ekS rfl rfl) (.cons (.slq ek_TWrite rfl rfl) (.cons .int (.cons (.slq ek_TSeg rfl rfl) (.cons .int (.cons .int (.cons .int (.cons .int (.cons (.slq ekI rfl rfl) .nil)))))))))) .nil) (ek_TState.own _) rfl ?_)
  refine rl.run 2 rfl (rl.done (RW.seq (RW.sreg (rl.run 2 rfl ?_))))
  obtain ⟨v6, e6, h7⟩ := bindS h6
  refine rl.call rfl rfl rfl (CallW.val (r' := .bool v6) ok_laws_eqState (law_laws_eqState e6) (.cons (DFL.agg (.cons (.slq ek_TBox rfl rfl) .nil)) (.cons (DFL.agg (.cons (.lst ek_TBox) .nil)) .nil)) .refl ?_)
  cases hb : v6
  ·have h8 := iteBF h7 hb
   refine rl.run 1 rfl (rl.done (RW.cond_t rfl (RW.sreg (rl.run 1 rfl (rl.done ?_)))))
   refine RW.keep [2] (a' := [(2, .bool false)]) (H' := [some ⟨[.lst false 1 (fl (encS false) x0.Log.Disk.Sectors) x0.Log.Disk.Sectors.length, .lst false 2 (fl (enc_TWrite false) x0.Log.Disk.Cache) x0.Log.Disk.Cache.length, .int .i64 x0.Log.Segs, .lst false 4 (fl (enc_TSeg false) x0.Log.Used) x0.Log.Used.length, .int .i64 x0.Log.NextGen, .int .i64 x0.Log.NextSeq, .int .i64 x0.Log.Stamp, .int .i64 x0.Log.NextValid, .lst false 1 (fl (encI false) x0.Freed) x0.Freed.length], 0⟩, some ⟨[.lst false 5 (fl (enc_TBox false) v3.Boxes) v3.Boxes.length], 0⟩, some ⟨fl (encS true) v4.Log.Disk.Sectors, 1⟩, some ⟨fl (enc_TWrite true) v4.Log.Disk.Cache, 2⟩, some ⟨fl (enc_TSeg true) v4.Log.Used, 4⟩, some ⟨fl (encI true) v4.Freed, 1⟩, some ⟨[.sl 2 0 v4.Log.Disk.Sectors.length, .sl 3 0 v4.Log.Disk.Cache.length, .int .i64 v4.Log.Segs, .sl 4 0 v4.Log.Used.length, .int .i64 v4.Log.NextGen, .int .i64 v4.Log.NextSeq, .int .i64 v4.Log.Stamp, .int .i64 v4.Log.NextValid, .sl 5 0 v4.Freed.length], 0⟩, some ⟨fl (enc_TBox true) v5.Boxes, 5⟩, some ⟨[.sl 7 0 v5.Boxes.length], 0⟩]) rfl rfl ?_
   refine RW.ret ?_
   cases h8
   exact RRet.mk rfl .bool (by first | decide | simp)
  ·have h9 := iteBT h7 hb
   refine rl.run 1 rfl (rl.done (RW.cond_f rfl (RW.skip (RW.seq (RW.sdrw (rdraw.op rfl rfl (rdraw.op rfl rfl ?_)))))))
   obtain ⟨v7, e7, h10⟩ := bindS h9
   refine rdraw.call rfl rfl rfl (CallW.val (r' := .agg (enc_TStore false v7)) ok_laws_toStore (law_laws_toStore e7) (.cons (DFL.agg (.cons (.lst ekS) (.cons (.lst ek_TWrite) (.cons .int (.cons (.lst ek_TSeg) (.cons .int (.cons .int (.cons .int (.cons .int (.cons (.lst ekI) .nil)))))))))) .nil) (ek_TStore.flag _).agg ⟨rfl, ?_⟩)
   obtain ⟨v8, e8, h11⟩ := bindS h10
   refine rdraw.call rfl rfl rfl (CallW.val (r' := .bool v8) ok_laws_eqStore (law_laws_eqStore e8) (.cons (DFL.agg (.cons (.slq ekS rfl rfl) (.cons (.slq ek_TWrite rfl rfl) (.cons .int (.cons (.slq ek_TSeg rfl rfl) (.cons .int (.cons .int (.cons .int (.cons .int (.cons (.slq ekI rfl rfl) .nil)))))))))) (.cons (.dat (.agg (ek_TStore.dat false _))) .nil)) .refl ⟨rfl, ?_⟩)
   cases hb : v8
   ·have h12 := iteBF h11 hb
    refine rdraw.op rfl rfl (rdraw.done ?_)
    refine RW.keep [1, 4, 5, 6, 31] (a' := [(1, .ptr 0 0), (4, .ptr 1 0), (5, .ptr 6 0), (6, .ptr 8 0), (31, .bool true)]) (H' := [some ⟨[.lst false 1 (fl (encS false) x0.Log.Disk.Sectors) x0.Log.Disk.Sectors.length, .lst false 2 (fl (enc_TWrite false) x0.Log.Disk.Cache) x0.Log.Disk.Cache.length, .int .i64 x0.Log.Segs, .lst false 4 (fl (enc_TSeg false) x0.Log.Used) x0.Log.Used.length, .int .i64 x0.Log.NextGen, .int .i64 x0.Log.NextSeq, .int .i64 x0.Log.Stamp, .int .i64 x0.Log.NextValid, .lst false 1 (fl (encI false) x0.Freed) x0.Freed.length], 0⟩, some ⟨[.lst false 5 (fl (enc_TBox false) v3.Boxes) v3.Boxes.length], 0⟩, some ⟨fl (encS true) v4.Log.Disk.Sectors, 1⟩, some ⟨fl (enc_TWrite true) v4.Log.Disk.Cache, 2⟩, some ⟨fl (enc_TSeg true) v4.Log.Used, 4⟩, some ⟨fl (encI true) v4.Freed, 1⟩, some ⟨[.sl 2 0 v4.Log.Disk.Sectors.length, .sl 3 0 v4.Log.Disk.Cache.length, .int .i64 v4.Log.Segs, .sl 4 0 v4.Log.Used.length, .int .i64 v4.Log.NextGen, .int .i64 v4.Log.NextSeq, .int .i64 v4.Log.Stamp, .int .i64 v4.Log.NextValid, .sl 5 0 v4.Freed.length], 0⟩, some ⟨fl (enc_TBox true) v5.Boxes, 5⟩, some ⟨[.sl 7 0 v5.Boxes.length], 0⟩]) rfl rfl ?_
    refine RW.cond_t rfl (RW.sreg (rl.run 1 rfl (rl.done (RW.ret ?_))))
    cases h12
    exact RRet.mk rfl .bool (by first | decide | simp)
   ·have h13 := iteBT h11 hb
    refine rdraw.op rfl rfl (rdraw.done ?_)
    refine RW.keep [1, 4, 5, 6, 31] (a' := [(1, .ptr 0 0), (4, .ptr 1 0), (5, .ptr 6 0), (6, .ptr 8 0), (31, .bool false)]) (H' := [some ⟨[.lst false 1 (fl (encS false) x0.Log.Disk.Sectors) x0.Log.Disk.Sectors.length, .lst false 2 (fl (enc_TWrite false) x0.Log.Disk.Cache) x0.Log.Disk.Cache.length, .int .i64 x0.Log.Segs, .lst false 4 (fl (enc_TSeg false) x0.Log.Used) x0.Log.Used.length, .int .i64 x0.Log.NextGen, .int .i64 x0.Log.NextSeq, .int .i64 x0.Log.Stamp, .int .i64 x0.Log.NextValid, .lst false 1 (fl (encI false) x0.Freed) x0.Freed.length], 0⟩, some ⟨[.lst false 5 (fl (enc_TBox false) v3.Boxes) v3.Boxes.length], 0⟩, some ⟨fl (encS true) v4.Log.Disk.Sectors, 1⟩, some ⟨fl (enc_TWrite true) v4.Log.Disk.Cache, 2⟩, some ⟨fl (enc_TSeg true) v4.Log.Used, 4⟩, some ⟨fl (encI true) v4.Freed, 1⟩, some ⟨[.sl 2 0 v4.Log.Disk.Sectors.length, .sl 3 0 v4.Log.Disk.Cache.length, .int .i64 v4.Log.Segs, .sl 4 0 v4.Log.Used.length, .int .i64 v4.Log.NextGen, .int .i64 v4.Log.NextSeq, .int .i64 v4.Log.Stamp, .int .i64 v4.Log.NextValid, .sl 5 0 v4.Freed.length], 0⟩, some ⟨fl (enc_TBox true) v5.Boxes, 5⟩, some ⟨[.sl 7 0 v5.Boxes.length], 0⟩]) rfl rfl ?_
    refine RW.cond_f rfl (RW.skip (RW.sreg (rl.run 1 rfl (rl.done (RW.sreg (rl.run 2 rfl ?_))))))
    obtain ⟨v9, e9, h14⟩ := bindS h13
    refine rl.call rfl rfl rfl (CallW.embW (r0 := .int .i64 v9.1) (H' := [some ⟨[.lst false 1 (fl (encS false) x0.Log.Disk.Sectors) x0.Log.Disk.Sectors.length, .lst false 2 (fl (enc_TWrite false) x0.Log.Disk.Cache) x0.Log.Disk.Cache.length, .int .i64 x0.Log.Segs, .lst false 4 (fl (enc_TSeg false) x0.Log.Used) x0.Log.Used.length, .int .i64 x0.Log.NextGen, .int .i64 x0.Log.NextSeq, .int .i64 x0.Log.Stamp, .int .i64 x0.Log.NextValid, .lst false 1 (fl (encI false) x0.Freed) x0.Freed.length], 0⟩, some ⟨[.lst false 5 (fl (enc_TBox false) v3.Boxes) v3.Boxes.length], 0⟩, some ⟨fl (encS true) v9.2.1, 1⟩, some ⟨fl (enc_TWrite true) v9.2.2.1, 2⟩, some ⟨fl (enc_TSeg true) v9.2.2.2.1, 4⟩, some ⟨fl (encI true) v9.2.2.2.2, 1⟩, some ⟨[.sl 2 0 v4.Log.Disk.Sectors.length, .sl 3 0 v4.Log.Disk.Cache.length, .int .i64 v4.Log.Segs, .sl 4 0 v4.Log.Used.length, .int .i64 v4.Log.NextGen, .int .i64 v4.Log.NextSeq, .int .i64 v4.Log.Stamp, .int .i64 v4.Log.NextValid, .sl 5 0 v4.Freed.length], 0⟩, some ⟨fl (enc_TBox true) v5.Boxes, 5⟩, some ⟨[.sl 7 0 v5.Boxes.length], 0⟩]) [⟨fl (encS true) v4.Log.Disk.Sectors, 1⟩, ⟨fl (enc_TWrite true) v4.Log.Disk.Cache, 2⟩, ⟨fl (enc_TSeg true) v4.Log.Used, 4⟩, ⟨fl (encI true) v4.Freed, 1⟩] [⟨fl (encS true) v9.2.1, 1⟩, ⟨fl (enc_TWrite true) v9.2.2.1, 2⟩, ⟨fl (enc_TSeg true) v9.2.2.2.1, 4⟩, ⟨fl (encI true) v9.2.2.2.2, 1⟩] [2, 3, 4, 5] ok_laws_markStore (law_laws_markStore_w (guardO_s e9)) (.cons rfl (ekS.fref _ _) (ekS.fown _) (.cons rfl (ek_TWrite.fref _ _) (ek_TWrite.fown _) (.cons rfl (ek_TSeg.fref _ _) (ek_TSeg.fown _) (.cons rfl (ekI.fref _ _) (ekI.fown _) .nil)))) rfl (.cons (RnL.agg (.cons (.slq rfl rfl) (.cons (.slq rfl rfl) (.cons (.dat .int) (.cons (.slq rfl rfl) (.cons (.dat .int) (.cons (.dat .int) (.cons (.dat .int) (.cons (.dat .int) (.cons (.slq rfl rfl) .nil)))))))))) (.cons (.dat .int) .nil)) .int rfl rfl ?_)
    refine rl.run 1 rfl (rl.done (RW.seq (RW.seq ?_)))
    obtain ⟨y10, ey10, h15⟩ := bindS h14
    refine RW.cutq (σ := Bool) (fun y10 => [(1, .ptr 0 0), (4, .ptr 1 0), (6, .ptr 2 0), (42, .bool y10)]) (fun y10 => [some ⟨[.lst false 1 (fl (encS false) x0.Log.Disk.Sectors) x0.Log.Disk.Sectors.length, .lst false 2 (fl (enc_TWrite false) x0.Log.Disk.Cache) x0.Log.Disk.Cache.length, .int .i64 x0.Log.Segs, .lst false 4 (fl (enc_TSeg false) x0.Log.Used) x0.Log.Used.length, .int .i64 x0.Log.NextGen, .int .i64 x0.Log.NextSeq, .int .i64 x0.Log.Stamp, .int .i64 x0.Log.NextValid, .lst false 1 (fl (encI false) x0.Freed) x0.Freed.length], 0⟩, some ⟨[.lst false 5 (fl (enc_TBox false) v3.Boxes) v3.Boxes.length], 0⟩, some ⟨[.sl 3 0 v5.Boxes.length], 0⟩, some ⟨fl (enc_TBox true) v5.Boxes, 5⟩]) (fun y => y10 = y) (fun _ _ _ _ g h => RW.gh g h) ?_ ?_
    ·refine RW.reg ?_
     refine rl.run 1 rfl ?_
     refine rl.gen rfl rfl fun b hb => ?_
     cases b
     ·have h16 := iteBF ey10 hb
      refine rl.run 3 rfl ?_
      obtain ⟨v11, e11, h17⟩ := bindS h16
      refine rl.call rfl rfl rfl (CallW.val (r' := .bool v11) ok_laws_eqState (law_laws_eqState e11) (.cons (DFL.agg (.cons (.slq ek_TBox rfl rfl) .nil)) (.cons (DFL.agg (.cons (.lst ek_TBox) .nil)) .nil)) .refl ?_)
      cases hb : v11
      ·have h18 := iteBF h17 hb
       refine rl.run 2 rfl (rl.done ?_)
       cases h18
       exact ⟨_, rfl, (Gh.ren0 [0, 1, 8, 7] (.cells rfl rfl (.keep (ekS.rlst) (.keep (ek_TWrite.rlst) (.keep .int (.keep (ek_TSeg.rlst) (.keep .int (.keep .int (.keep .int (.keep .int (.keep (ekI.rlst) .nil))))))))) (.cells rfl rfl (.keep (ek_TBox.rlst) .nil) (.cells rfl rfl (.slq rfl rfl .nil) (.same rfl (ek_TBox.fref _ _) .nil)))) rfl (.cons rfl (.ptr rfl) (.cons rfl (.ptr rfl) (.cons rfl (.ptr rfl) (.cons rfl (.dat .bool) .nil)))))⟩
      ·have h19 := iteBT h17 hb
       refine rl.run 2 rfl (rl.done ?_)
       cases h19
       exact ⟨_, rfl, (Gh.ren0 [0, 1, 8, 7] (.cells rfl rfl (.keep (ekS.rlst) (.keep (ek_TWrite.rlst) (.keep .int (.keep (ek_TSeg.rlst) (.keep .int (.keep .int (.keep .int (.keep .int (.keep (ekI.rlst) .nil))))))))) (.cells rfl rfl (.keep (ek_TBox.rlst) .nil) (.cells rfl rfl (.slq rfl rfl .nil) (.same rfl (ek_TBox.fref _ _) .nil)))) rfl (.cons rfl (.ptr rfl) (.cons rfl (.ptr rfl) (.cons rfl (.ptr rfl) (.cons rfl (.dat .bool) .nil)))))⟩
     ·have h20 := iteBT ey10 hb
      refine rl.run 6 rfl (rl.done ?_)
      cases h20
      exact ⟨_, rfl, (Gh.ren0 [0, 1, 8, 7] (.cells rfl rfl (.keep (ekS.rlst) (.keep (ek_TWrite.rlst) (.keep .int (.keep (ek_TSeg.rlst) (.keep .int (.keep .int (.keep .int (.keep .int (.keep (ekI.rlst) .nil))))))))) (.cells rfl rfl (.keep (ek_TBox.rlst) .nil) (.cells rfl rfl (.slq rfl rfl .nil) (.same rfl (ek_TBox.fref _ _) .nil)))) rfl (.cons rfl (.ptr rfl) (.cons rfl (.ptr rfl) (.cons rfl (.ptr rfl) (.cons rfl (.dat .bool) .nil)))))⟩
    ·intro y hC
     subst hC
     cases hb : y10
     ·have h21 := iteBF h15 hb
      refine RW.cond_f rfl (RW.skip (RW.sreg (rl.run 1 rfl (rl.done (RW.sreg (rl.run 2 rfl ?_))))))
      obtain ⟨v12, e12, h22⟩ := bindS h21
      refine rl.call rfl rfl rfl (CallW.embW (r0 := .int .i64 v12.1) (H' := [some ⟨[.lst false 1 (fl (encS false) x0.Log.Disk.Sectors) x0.Log.Disk.Sectors.length, .lst false 2 (fl (enc_TWrite false) x0.Log.Disk.Cache) x0.Log.Disk.Cache.length, .int .i64 x0.Log.Segs, .lst false 4 (fl (enc_TSeg false) x0.Log.Used) x0.Log.Used.length, .int .i64 x0.Log.NextGen, .int .i64 x0.Log.NextSeq, .int .i64 x0.Log.Stamp, .int .i64 x0.Log.NextValid, .lst false 1 (fl (encI false) x0.Freed) x0.Freed.length], 0⟩, some ⟨[.lst false 5 (fl (enc_TBox false) v3.Boxes) v3.Boxes.length], 0⟩, some ⟨[.sl 3 0 v5.Boxes.length], 0⟩, some ⟨fl (enc_TBox true) v12.2, 5⟩]) [⟨fl (enc_TBox true) v5.Boxes, 5⟩] [⟨fl (enc_TBox true) v12.2, 5⟩] [3] ok_laws_markState (law_laws_markState_w (guardO_s e12)) (.cons rfl (ek_TBox.fref _ _) (ek_TBox.fown _) .nil) rfl (.cons (RnL.agg (.cons (.slq rfl rfl) .nil)) (.cons (.dat .int) .nil)) .int rfl rfl ?_)
      refine rl.run 1 rfl (rl.done (RW.sreg (rl.run 1 rfl (rl.done (RW.sreg (rl.run 2 rfl ?_))))))
      obtain ⟨v13, e13, h23⟩ := bindS h22
      refine rl.call rfl rfl rfl (CallW.val (r' := .int .i64 v13) ok_laws_heldState (law_laws_heldState e13) (.cons (DFL.agg (.cons (.slq ek_TBox rfl (guardO_p (p := fun r : Int × (List TBox) => v5.Boxes.length = r.2.length) e12)) .nil)) (.cons .int .nil)) .refl ?_)
      refine rl.run 1 rfl (rl.done (RW.seq (RW.sreg (rl.run 1 rfl ?_))))
      refine rl.gen rfl rfl fun b hb => ?_
      cases b
      ·have h24 := iteBF h23 hb
       refine rl.done (RW.cond_f rfl (RW.skip (RW.seq (RW.sreg (rl.run 2 rfl ?_)))))
       refine rl.gen rfl rfl fun b hb => ?_
       cases b
       ·have h25 := iteBF h24 hb
        refine rl.done ?_
        refine RW.keep [1, 4, 6, 8, 53] (a' := [(1, .ptr 0 0), (4, .ptr 1 0), (6, .ptr 2 0), (8, .int .i64 v12.1), (53, .bool false)]) (H' := [some ⟨[.lst false 1 (fl (encS false) x0.Log.Disk.Sectors) x0.Log.Disk.Sectors.length, .lst false 2 (fl (enc_TWrite false) x0.Log.Disk.Cache) x0.Log.Disk.Cache.length, .int .i64 x0.Log.Segs, .lst false 4 (fl (enc_TSeg false) x0.Log.Used) x0.Log.Used.length, .int .i64 x0.Log.NextGen, .int .i64 x0.Log.NextSeq, .int .i64 x0.Log.Stamp, .int .i64 x0.Log.NextValid, .lst false 1 (fl (encI false) x0.Freed) x0.Freed.length], 0⟩, some ⟨[.lst false 5 (fl (enc_TBox false) v3.Boxes) v3.Boxes.length], 0⟩, some ⟨[.sl 3 0 v5.Boxes.length], 0⟩, some ⟨fl (enc_TBox true) v12.2, 5⟩]) rfl rfl ?_
        refine RW.cond_f rfl (RW.skip (RW.sreg (rl.run 1 rfl ?_)))
        obtain ⟨v14, e14, h26⟩ := bindS h25
        refine rl.call rfl rfl rfl (CallW.val (r' := .agg (enc_TStore false v14)) ok_laws_toStore (law_laws_toStore e14) (.cons (DFL.agg (.cons (.lst ekS) (.cons (.lst ek_TWrite) (.cons .int (.cons (.lst ek_TSeg) (.cons .int (.cons .int (.cons .int (.cons .int (.cons (.lst ekI) .nil)))))))))) .nil) (ek_TStore.flag _).agg ?_)
        obtain ⟨v15, e15, h27⟩ := bindS h26
        refine rl.call rfl rfl rfl (CallW.val (r' := .agg (enc_TState false v15)) ok_impl_StateNow (law_impl_StateNow e15) (.cons (.dat (.agg (ek_TStore.dat false _))) .nil) (ek_TState.flag _).agg ?_)
        refine rl.run 2 rfl (rl.done (RW.seq (RW.sreg (rl.run 2 rfl ?_))))
        obtain ⟨v16, e16, h28⟩ := bindS h27
        refine rl.call rfl rfl rfl (CallW.val (r' := .bool v16) ok_laws_eqState (law_laws_eqState e16) (.cons (DFL.agg (.cons (.lst ek_TBox) .nil)) (.cons (DFL.agg (.cons (.lst ek_TBox) .nil)) .nil)) .refl ?_)
        cases hb : v16
        ·have h29 := iteBF h28 hb
         refine rl.run 1 rfl (rl.done (RW.cond_t rfl (RW.sreg (rl.run 1 rfl (rl.done ?_)))))
         refine RW.keep [2] (a' := [(2, .bool false)]) (H' := [some ⟨[.lst false 1 (fl (encS false) x0.Log.Disk.Sectors) x0.Log.Disk.Sectors.length, .lst false 2 (fl (enc_TWrite false) x0.Log.Disk.Cache) x0.Log.Disk.Cache.length, .int .i64 x0.Log.Segs, .lst false 4 (fl (enc_TSeg false) x0.Log.Used) x0.Log.Used.length, .int .i64 x0.Log.NextGen, .int .i64 x0.Log.NextSeq, .int .i64 x0.Log.Stamp, .int .i64 x0.Log.NextValid, .lst false 1 (fl (encI false) x0.Freed) x0.Freed.length], 0⟩, some ⟨[.lst false 5 (fl (enc_TBox false) v3.Boxes) v3.Boxes.length], 0⟩, some ⟨[.sl 3 0 v5.Boxes.length], 0⟩, some ⟨fl (enc_TBox true) v12.2, 5⟩, some ⟨[.lst false 5 (fl (enc_TBox false) v15.Boxes) v15.Boxes.length], 0⟩]) rfl rfl ?_
         refine RW.ret ?_
         cases h29
         exact RRet.mk rfl .bool (by first | decide | simp)
        ·have h30 := iteBT h28 hb
         refine rl.run 1 rfl (rl.done (RW.cond_f rfl (RW.skip (RW.sreg (rl.run 1 rfl (rl.done ?_))))))
         refine RW.keep [6, 8, 9] (a' := [(6, .ptr 2 0), (8, .int .i64 v12.1), (9, .int .i64 1)]) (H' := [some ⟨[.lst false 1 (fl (encS false) x0.Log.Disk.Sectors) x0.Log.Disk.Sectors.length, .lst false 2 (fl (enc_TWrite false) x0.Log.Disk.Cache) x0.Log.Disk.Cache.length, .int .i64 x0.Log.Segs, .lst false 4 (fl (enc_TSeg false) x0.Log.Used) x0.Log.Used.length, .int .i64 x0.Log.NextGen, .int .i64 x0.Log.NextSeq, .int .i64 x0.Log.Stamp, .int .i64 x0.Log.NextValid, .lst false 1 (fl (encI false) x0.Freed) x0.Freed.length], 0⟩, some ⟨[.lst false 5 (fl (enc_TBox false) v3.Boxes) v3.Boxes.length], 0⟩, some ⟨[.sl 3 0 v5.Boxes.length], 0⟩, some ⟨fl (enc_TBox true) v12.2, 5⟩, some ⟨[.lst false 5 (fl (enc_TBox false) v15.Boxes) v15.Boxes.length], 0⟩]) rfl rfl ?_
         refine RW.sreg (rl.run 2 rfl ?_)
         obtain ⟨v17, e17, h31⟩ := bindS h30
         refine rl.call rfl rfl rfl (CallW.val (r' := .int .i64 v17) ok_laws_heldState (law_laws_heldState e17) (.cons (DFL.agg (.cons (.slq ek_TBox rfl (guardO_p (p := fun r : Int × (List TBox) => v5.Boxes.length = r.2.length) e12)) .nil)) (.cons .int .nil)) .refl ?_)
         refine rl.run 1 rfl (rl.done (RW.seq (RW.sreg (rl.run 1 rfl ?_))))
         refine rl.gen rfl rfl fun b hb => ?_
         cases b
         ·have h32 := iteBF h31 hb
          refine rl.done (RW.cond_f rfl (RW.skip (RW.seq (RW.sreg (rl.run 2 rfl ?_)))))
          refine rl.gen rfl rfl fun b hb => ?_
          cases b
          ·have h33 := iteBF h32 hb
           refine rl.done (RW.cond_f rfl (RW.skip (RW.sreg (rl.run 1 rfl (rl.done ?_)))))
           refine RW.keep [2] (a' := [(2, .bool true)]) (H' := [some ⟨[.lst false 1 (fl (encS false) x0.Log.Disk.Sectors) x0.Log.Disk.Sectors.length, .lst false 2 (fl (enc_TWrite false) x0.Log.Disk.Cache) x0.Log.Disk.Cache.length, .int .i64 x0.Log.Segs, .lst false 4 (fl (enc_TSeg false) x0.Log.Used) x0.Log.Used.length, .int .i64 x0.Log.NextGen, .int .i64 x0.Log.NextSeq, .int .i64 x0.Log.Stamp, .int .i64 x0.Log.NextValid, .lst false 1 (fl (encI false) x0.Freed) x0.Freed.length], 0⟩, some ⟨[.lst false 5 (fl (enc_TBox false) v3.Boxes) v3.Boxes.length], 0⟩, some ⟨[.sl 3 0 v5.Boxes.length], 0⟩, some ⟨fl (enc_TBox true) v12.2, 5⟩, some ⟨[.lst false 5 (fl (enc_TBox false) v15.Boxes) v15.Boxes.length], 0⟩]) rfl rfl ?_
           refine RW.ret ?_
           cases h33
           exact RRet.mk rfl .bool (by first | decide | simp)
          ·have h34 := iteBT h32 hb
           refine rl.done (RW.cond_t rfl (RW.sreg (rl.run 1 rfl (rl.done ?_))))
           refine RW.keep [2] (a' := [(2, .bool false)]) (H' := [some ⟨[.lst false 1 (fl (encS false) x0.Log.Disk.Sectors) x0.Log.Disk.Sectors.length, .lst false 2 (fl (enc_TWrite false) x0.Log.Disk.Cache) x0.Log.Disk.Cache.length, .int .i64 x0.Log.Segs, .lst false 4 (fl (enc_TSeg false) x0.Log.Used) x0.Log.Used.length, .int .i64 x0.Log.NextGen, .int .i64 x0.Log.NextSeq, .int .i64 x0.Log.Stamp, .int .i64 x0.Log.NextValid, .lst false 1 (fl (encI false) x0.Freed) x0.Freed.length], 0⟩, some ⟨[.lst false 5 (fl (enc_TBox false) v3.Boxes) v3.Boxes.length], 0⟩, some ⟨[.sl 3 0 v5.Boxes.length], 0⟩, some ⟨fl (enc_TBox true) v12.2, 5⟩, some ⟨[.lst false 5 (fl (enc_TBox false) v15.Boxes) v15.Boxes.length], 0⟩]) rfl rfl ?_
           refine RW.ret ?_
           cases h34
           exact RRet.mk rfl .bool (by first | decide | simp)
         ·have h35 := iteBT h31 hb
          refine rl.done (RW.cond_t rfl (RW.sreg (rl.run 1 rfl (rl.done (RW.ret ?_)))))
          cases h35
          exact RRet.mk rfl .bool (by first | decide | simp)
       ·have h36 := iteBT h24 hb
        refine rl.done ?_
        refine RW.keep [1, 4, 6, 8, 53] (a' := [(1, .ptr 0 0), (4, .ptr 1 0), (6, .ptr 2 0), (8, .int .i64 v12.1), (53, .bool true)]) (H' := [some ⟨[.lst false 1 (fl (encS false) x0.Log.Disk.Sectors) x0.Log.Disk.Sectors.length, .lst false 2 (fl (enc_TWrite false) x0.Log.Disk.Cache) x0.Log.Disk.Cache.length, .int .i64 x0.Log.Segs, .lst false 4 (fl (enc_TSeg false) x0.Log.Used) x0.Log.Used.length, .int .i64 x0.Log.NextGen, .int .i64 x0.Log.NextSeq, .int .i64 x0.Log.Stamp, .int .i64 x0.Log.NextValid, .lst false 1 (fl (encI false) x0.Freed) x0.Freed.length], 0⟩, some ⟨[.lst false 5 (fl (enc_TBox false) v3.Boxes) v3.Boxes.length], 0⟩, some ⟨[.sl 3 0 v5.Boxes.length], 0⟩, some ⟨fl (enc_TBox true) v12.2, 5⟩]) rfl rfl ?_
        refine RW.cond_t rfl (RW.sreg (rl.run 1 rfl (rl.done (RW.ret ?_))))
        cases h36
        exact RRet.mk rfl .bool (by first | decide | simp)
      ·have h37 := iteBT h23 hb
       refine rl.done (RW.cond_t rfl (RW.sreg (rl.run 1 rfl (rl.done ?_))))
       refine RW.keep [2] (a' := [(2, .bool false)]) (H' := [some ⟨[.lst false 1 (fl (encS false) x0.Log.Disk.Sectors) x0.Log.Disk.Sectors.length, .lst false 2 (fl (enc_TWrite false) x0.Log.Disk.Cache) x0.Log.Disk.Cache.length, .int .i64 x0.Log.Segs, .lst false 4 (fl (enc_TSeg false) x0.Log.Used) x0.Log.Used.length, .int .i64 x0.Log.NextGen, .int .i64 x0.Log.NextSeq, .int .i64 x0.Log.Stamp, .int .i64 x0.Log.NextValid, .lst false 1 (fl (encI false) x0.Freed) x0.Freed.length], 0⟩, some ⟨[.lst false 5 (fl (enc_TBox false) v3.Boxes) v3.Boxes.length], 0⟩, some ⟨[.sl 3 0 v5.Boxes.length], 0⟩, some ⟨fl (enc_TBox true) v12.2, 5⟩]) rfl rfl ?_
       refine RW.ret ?_
       cases h37
       exact RRet.mk rfl .bool (by first | decide | simp)
     ·have h38 := iteBT h15 hb
      refine RW.cond_t rfl (RW.sreg (rl.run 1 rfl (rl.done (RW.ret ?_))))
      cases h38
      exact RRet.mk rfl .bool (by first | decide | simp)
 ·have h39 := iteBT h1 hb
  refine rl.done (RW.cond_t rfl (RW.sreg (rl.run 1 rfl (rl.done (RW.ret ?_)))))
  cases h39
  exact RRet.mk rfl .bool (by first | decide | simp)
end Go.Proofs.YtcehlicmghnghaaGreat.V
