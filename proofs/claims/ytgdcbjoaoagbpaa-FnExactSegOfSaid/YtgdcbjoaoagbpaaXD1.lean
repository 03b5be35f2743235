/- What a call comes to. -/
import Derived.Test.YtgdcbjoaoagbpaaXD0
namespace Go.Proofs.Ytgdcbjoaoagbpaa.V
open Go Go.Proofs Go.RowKit
set_option maxRecDepth 100000
theorem law_impl_ScanFrames {x0 : List UInt8} {x1 : Int} {r : (List TFrame) × Int} (hF : F_impl_ScanFrames x0 x1 = some r) : PCalls Try.prog 176 [.str x0, .int .i64 x1] (.tup [.lst true 3 (fl (enc_TFrame true) r.1) r.1.length, .int .i64 r.2]) := by
 refine PCalls.of_r k_impl_ScanFrames rfl ?_
 unfold F_impl_ScanFrames at hF
 refine RW.sreg (rl.run 2 rfl (rl.done (RW.sreg (rl.run 2 rfl (rl.done (RW.sreg (rl.run 1 rfl (rl.done ?_))))))))
 refine RW.gh (Gh.nil_t 6 3 rfl) ?_
 obtain ⟨y6, ey6, h2⟩ := bindS hF
 refine RW.cutE (fun y2 => []) (fun y2 => []) (fun y => y6 = .inr y) ?_ ?_
 ·refine RW.blk ?_
  refine RW.iter (σ := Int × (List TFrame)) ey6 (fun s1 => [(0, .str x0), (1, .int .i64 x1), (6, .sl 0 0 s1.2.length), (7, .int .i64 s1.1)]) (fun s1 => [some ⟨fl (enc_TFrame true) s1.2, 3⟩]) (Gh.ren0 [0] (.same rfl (ek_TFrame.fref _ _) .nil) rfl (.cons rfl (.dat .str) (.cons rfl (.dat .int) (.cons rfl (.slq rfl rfl) (.cons rfl (.dat .int) .nil))))) (fun s1 B o hS1 hB1 hE1 => ?_)
  unfold S_impl_ScanFrames_1 at hS1
  refine RW.blk (RW.sreg (rl.run 2 rfl ?_))
  obtain ⟨v3, e3, h3⟩ := bindS hS1
  refine rl.call rfl rfl rfl (CallW.val (r' := .tup [.agg (enc_TFrame false v3.1), .int .i64 v3.2.1, .bool v3.2.2]) ok_impl_ReadFrame (law_impl_ReadFrame e3) (.cons .str (.cons .int .nil)) (FlL.tup (.cons .refl (.cons .refl (.cons .refl .nil)))) ?_)
  refine rl.run 8 rfl (rl.done (RW.seq (RW.seq ?_)))
  obtain ⟨y4, ey4, h4⟩ := bindS h3
  refine RW.cutq (σ := Bool) (fun y4 => [(0, .str x0), (1, .int .i64 x1), (6, .sl 0 0 s1.2.length), (7, .int .i64 s1.1), (8, .ptr 1 0), (9, .int .i64 v3.2.1), (26, .bool y4)]) (fun y4 => [some ⟨fl (enc_TFrame true) s1.2, 3⟩, some ⟨[.int .i64 v3.1.Gen, .int .i64 v3.1.Seq, .str v3.1.Body], 0⟩]) (fun y => y4 = y) (fun _ _ _ _ g h => RW.gh g h) ?_ ?_
  ·refine RW.reg ?_
   refine rl.run 3 rfl ?_
   cases hb : (!v3.2.2)
   ·have h5 := iteBF ey4 hb
    refine rl.run 3 rfl ?_
    refine rl.gen rfl rfl fun b hb => ?_
    cases b
    ·have h6 := iteBF h5 hb
     refine rl.run 1 rfl (rl.done ?_)
     cases h6
     exact ⟨_, rfl, (Gh.ren0 [0, 1] (.same rfl (ek_TFrame.fref _ _) (.cells rfl rfl (.keep .int (.keep .int (.keep .str .nil))) .nil)) rfl (.cons rfl (.dat .str) (.cons rfl (.dat .int) (.cons rfl (.slq rfl rfl) (.cons rfl (.dat .int) (.cons rfl (.ptr rfl) (.cons rfl (.dat .int) (.cons rfl (.dat .bool) .nil))))))))⟩
    ·have h7 := iteBT h5 hb
     refine rl.run 1 rfl (rl.done ?_)
     cases h7
     exact ⟨_, rfl, (Gh.ren0 [0, 1] (.same rfl (ek_TFrame.fref _ _) (.cells rfl rfl (.keep .int (.keep .int (.keep .str .nil))) .nil)) rfl (.cons rfl (.dat .str) (.cons rfl (.dat .int) (.cons rfl (.slq rfl rfl) (.cons rfl (.dat .int) (.cons rfl (.ptr rfl) (.cons rfl (.dat .int) (.cons rfl (.dat .bool) .nil))))))))⟩
   ·have h8 := iteBT ey4 hb
    refine rl.run 5 rfl (rl.done ?_)
    cases h8
    exact ⟨_, rfl, (Gh.ren0 [0, 1] (.same rfl (ek_TFrame.fref _ _) (.cells rfl rfl (.keep .int (.keep .int (.keep .str .nil))) .nil)) rfl (.cons rfl (.dat .str) (.cons rfl (.dat .int) (.cons rfl (.slq rfl rfl) (.cons rfl (.dat .int) (.cons rfl (.ptr rfl) (.cons rfl (.dat .int) (.cons rfl (.dat .bool) .nil))))))))⟩
  ·intro y hC
   subst hC
   cases hb : y4
   ·have h9 := iteBF h4 hb
    refine RW.cond_f rfl (RW.skip (RW.sreg (rl.run 3 rfl ?_)))
    obtain ⟨v5, e5, h10⟩ := bindS h9
    refine rl.op (x_app rfl rfl (rapp_sl (l := s1.2) (m := [v3.1]) (o := true) ek_TFrame rfl rfl (acont_slq (m := [v3.1]) (o := true) fk_TFrame rfl rfl) rfl (fk_TFrame.fst _ _) e5)) ?_
    refine rl.run 1 rfl (rl.done (RW.reg (rl.run 2 rfl (rl.done ?_))))
    cases h10
    exact hB1 _ rfl _ _ (Gh.ren0 [3] (.same rfl (ek_TFrame.fref _ _) .nil) rfl (.cons rfl (.dat .str) (.cons rfl (.dat .int) (.cons rfl (.slq rfl rfl) (.cons rfl (.dat .int) .nil)))))
   ·have h11 := iteBT h4 hb
    refine RW.cond_t rfl (RW.sreg (rl.run 4 rfl (rl.done (RW.ret ?_))))
    cases h11
    have h12 := elimL h2 (hE1 _ rfl)
    cases h12
    exact RRet.mk rfl (OutT.tup (.cons (OutR.ownq ek_TFrame rfl rfl) (.cons .int .nil))) (by first | decide | simp)
 ·exact fun y => y.elim
theorem law_impl_SegFrames {x0 : TDisk} {x1 : Int} {r : (List TFrame) × Int} (hF : F_impl_SegFrames x0 x1 = some r) : PCalls Try.prog 109 [.agg (enc_TDisk false x0), .int .i64 x1] (.tup [.lst false 3 (fl (enc_TFrame false) r.1) r.1.length, .int .i64 r.2]) := by
 refine PCalls.of_r k_impl_SegFrames rfl ?_
 unfold F_impl_SegFrames at hF
 refine RW.sreg (rl.run 3 rfl (rl.done (RW.sreg (rl.run 2 rfl ?_))))
 obtain ⟨v1, e1, h1⟩ := bindS hF
 refine rl.call rfl rfl rfl (CallW.val (r' := .int .i64 v1) ok_impl_SegGen (law_impl_SegGen e1) (.cons (DFL.agg (.cons (.lst ekS) (.cons (.lst ek_TWrite) .nil))) (.cons .int .nil)) .refl ?_)
 refine rl.run 1 rfl (rl.done (RW.seq (RW.sreg (rl.run 1 rfl ?_))))
 refine rl.gen rfl rfl fun b hb => ?_
 cases b
 ·have h2 := iteBF h1 hb
  refine rl.done (RW.cond_f rfl (RW.skip (RW.sreg (rl.run 2 rfl ?_))))
  obtain ⟨v2, e2, h3⟩ := bindS h2
  refine rl.call rfl rfl rfl (CallW.val (r' := .str v2) ok_impl_SegText (law_impl_SegText e2) (.cons (DFL.agg (.cons (.lst ekS) (.cons (.lst ek_TWrite) .nil))) (.cons .int .nil)) .refl ?_)
  refine rl.run 1 rfl ?_
  obtain ⟨v3, e3, h4⟩ := bindS h3
  refine rl.call rfl rfl rfl (CallW.own (r' := .tup [.sl 1 0 v3.1.length, .int .i64 v3.2]) (H' := [some ⟨[.lst false 1 (fl (encS false) x0.Sectors) x0.Sectors.length, .lst false 2 (fl (enc_TWrite false) x0.Cache) x0.Cache.length], 0⟩, some ⟨fl (enc_TFrame true) v3.1, 3⟩]) ok_impl_ScanFrames (law_impl_ScanFrames e3) (.cons .str (.cons .int .nil)) (fac (.lst (ek_TFrame.fown _)) (fac .int fan)) rfl ?_)
  refine rl.run 5 rfl (rl.done ?_)
  refine RW.keep [7, 8] (a' := [(7, .sl 1 0 v3.1.length), (8, .int .i64 v3.2)]) (H' := [some ⟨[.lst false 1 (fl (encS false) x0.Sectors) x0.Sectors.length, .lst false 2 (fl (enc_TWrite false) x0.Cache) x0.Cache.length], 0⟩, some ⟨fl (enc_TFrame true) v3.1, 3⟩]) rfl rfl ?_
  refine RW.sreg (rl.run 1 rfl ?_)
  obtain ⟨v4, e4, h5⟩ := bindS h4
  refine rl.op (x_sle_sl (i := 1) rfl rfl rfl rfl rfl abnd_lo e4) ?_
  refine rl.run 3 rfl (rl.done (RW.ret ?_))
  cases h5
  exact RRet.mk rfl (OutT.tup (.cons (OutR.viewq fk_TFrame rfl e4) (.cons .int .nil))) (by first | decide | simp)
 ·have h6 := iteBT h1 hb
  refine rl.done (RW.cond_t rfl (RW.sreg (rl.run 2 rfl (rl.done (RW.ret ?_)))))
  cases h6
  exact RRet.mk rfl (OutT.tup (.cons .nilsv (.cons .int .nil))) (by first | decide | simp)
theorem law_impl_WordOk {x0 : List UInt8} {r : Bool} (hF : F_impl_WordOk x0 = some r) : PCalls Try.prog 190 [.str x0] (.bool r) := by
 refine PCalls.of_r k_impl_WordOk rfl ?_
 unfold F_impl_WordOk at hF
 refine RW.sreg (rl.run 1 rfl (rl.done (RW.seq (RW.sreg (rl.run 2 rfl ?_)))))
 obtain ⟨v1, e1, h1⟩ := bindS hF
 refine rl.call rfl rfl rfl (CallW.val (r' := .bool v1) ok_impl_in (law_impl_in e1) (.cons .int (.cons .int (.cons .int .nil))) .refl ?_)
 cases hb : v1
 ·have h2 := iteBF h1 hb
  refine rl.run 1 rfl (rl.done (RW.cond_t rfl (RW.sreg (rl.run 1 rfl (rl.done (RW.ret ?_))))))
  cases h2
  exact RRet.mk rfl .bool (by first | decide | simp)
 ·have h3 := iteBT h1 hb
  refine rl.run 1 rfl (rl.done (RW.cond_f rfl (RW.skip (RW.seq (RW.sreg (rl.run 3 rfl (rl.done ?_)))))))
  obtain ⟨y7, ey7, h5⟩ := bindS h3
  refine RW.cutq (σ := Unit) (fun y3 => []) (fun y3 => []) (fun y => y7 = .inr y) (fun _ _ _ _ g h => RW.gh g h) ?_ ?_
  ·refine RW.blk ?_
   refine RW.iter (σ := Int) ey7 (fun s2 => [(0, .str x0), (9, .int .i64 (x0.length : Int)), (10, .int .i64 s2)]) (fun s2 => []) (Gh.ren0 [] .nil rfl (.cons rfl (.dat .str) (.cons rfl (.dat .int) (.cons rfl (.dat .int) .nil)))) (fun s2 B o hS4 hB4 hE4 => ?_)
   unfold S_impl_WordOk_1 at hS4
   refine RW.sreg ?_
   refine rl.gen rfl rfl fun b hb => ?_
   cases b
   ·have h6 := iteBF hS4 hb
    refine rl.done (RW.seq (RW.cond_f rfl (RW.exit (blkA_eq ?_))))
    cases h6
    exact ⟨_, (hE4 _ rfl).symm, (Gh.ren0 [] .nil rfl .nil)⟩
   ·have h7 := iteBT hS4 hb
    refine rl.done (RW.seq (RW.cond_t rfl (RW.skip (RW.seq (RW.blk (RW.sreg (rl.run 2 rfl (rl.done (RW.seq ?_)))))))))
    obtain ⟨y4, ey4, h8⟩ := bindS h7
    refine RW.cutq (σ := Bool) (fun y4 => [(0, .str x0), (9, .int .i64 (x0.length : Int)), (10, .int .i64 s2), (22, .bool y4)]) (fun y4 => []) (fun y => y4 = y) (fun _ _ _ _ g h => RW.gh g h) ?_ ?_
    ·refine RW.reg ?_
     refine rl.run 2 rfl ?_
     obtain ⟨v5, e5, h9⟩ := bindS ey4
     refine rl.op (x_idx rfl rfl e5) ?_
     refine rl.gen rfl rfl fun b hb => ?_
     cases b
     ·have h10 := iteBF h9 hb
      refine rl.run 3 rfl ?_
      obtain ⟨v6, e6, h11⟩ := bindS h10
      refine rl.gop rfl (x_idx rfl rfl e6) ?_
      refine rl.gen rfl rfl fun b hb => ?_
      cases b
      ·have h12 := iteBF h11 hb
       refine rl.run 1 rfl (rl.done ?_)
       cases h12
       exact ⟨_, rfl, (Gh.ren0 [] .nil rfl (.cons rfl (.dat .str) (.cons rfl (.dat .int) (.cons rfl (.dat .int) (.cons rfl (.dat .bool) .nil)))))⟩
      ·have h13 := iteBT h11 hb
       refine rl.run 1 rfl (rl.done ?_)
       cases h13
       exact ⟨_, rfl, (Gh.ren0 [] .nil rfl (.cons rfl (.dat .str) (.cons rfl (.dat .int) (.cons rfl (.dat .int) (.cons rfl (.dat .bool) .nil)))))⟩
     ·have h14 := iteBT h9 hb
      refine rl.run 6 rfl (rl.done ?_)
      cases h14
      exact ⟨_, rfl, (Gh.ren0 [] .nil rfl (.cons rfl (.dat .str) (.cons rfl (.dat .int) (.cons rfl (.dat .int) (.cons rfl (.dat .bool) .nil)))))⟩
    ·intro y hC
     subst hC
     cases hb : y4
     ·have h15 := iteBF h8 hb
      refine RW.cond_f rfl (RW.skip (RW.reg (rl.run 2 rfl (rl.done ?_))))
      cases h15
      exact hB4 _ rfl _ _ (Gh.ren0 [] .nil rfl (.cons rfl (.dat .str) (.cons rfl (.dat .int) (.cons rfl (.dat .int) .nil))))
     ·have h16 := iteBT h8 hb
      refine RW.cond_t rfl (RW.sreg (rl.run 1 rfl (rl.done (RW.ret ?_))))
      cases h16
      have h17 := elimL h5 (hE4 _ rfl)
      cases h17
      exact RRet.mk rfl .bool (by first | decide | simp)
  ·intro y3 hC
   have h5 := elimR h5 hC
   refine RW.sreg (rl.run 1 rfl (rl.done (RW.ret ?_)))
   cases h5
   exact RRet.mk rfl .bool (by first | decide | simp)
set_option maxHeartbeats 2000000 in
theorem law_impl_RecOk {x0 : TRec} {r : Bool} (hF : F_impl_RecOk x0 = some r) : PCalls Try.prog 131 [.agg (enc_TRec false x0)] (.bool r) := by
 refine PCalls.of_r k_impl_RecOk rfl ?_
 unfold F_impl_RecOk at hF
 refine RW.sreg (rl.run 2 rfl (rl.done (RW.seq (RW.sreg (rl.run 2 rfl ?_)))))
 obtain ⟨v1, e1, h1⟩ := bindS hF
 refine rl.call rfl rfl rfl (CallW.val (r' := .bool v1) ok_impl_in (law_impl_in e1) (.cons .int (.cons .int (.cons .int .nil))) .refl ?_)
 cases hb : v1
 ·have h2 := iteBF h1 hb
  refine rl.run 1 rfl (rl.done (RW.cond_t rfl (RW.sreg (rl.run 1 rfl (rl.done (RW.ret ?_))))))
  cases h2
  exact RRet.mk rfl .bool (by first | decide | simp)
 ·have h3 := iteBT h1 hb
  refine rl.run 1 rfl (rl.done (RW.cond_f rfl (RW.skip (RW.sreg (rl.run 3 rfl (rl.done (RW.sreg (rl.run 4 rfl (rl.done (RW.sreg (rl.run 1 rfl ?_)))))))))))
  refine rl.done (RW.seq (RW.seq ?_))
  obtain ⟨y2, ey2, h4⟩ := bindS h3
  refine RW.cutq (σ := Bool) (fun y2 => [(1, .ptr 0 0), (3, .ptr 1 0), (4, .bool true), (24, .bool y2)]) (fun y2 => [some ⟨[.int .i64 x0.Kind, .int .i64 x0.Valid, .int .i64 x0.Uid, .int .i64 x0.Next, .int .i64 x0.Flags, .str x0.User, .str x0.Name, .str x0.Text], 0⟩, some ⟨[.int .i64 0, .int .i64 0, .int .i64 x0.Uid, .int .i64 x0.Next, .int .i64 x0.Flags, .str x0.User, .str x0.Name, .str x0.Text], 0⟩]) (fun y => y2 = y) (fun _ _ _ _ g h => RW.gh g h) ?_ ?_
  ·refine RW.reg ?_
   refine rl.run 2 rfl ?_
   refine rl.gen rfl rfl fun b hb => ?_
   cases b
   ·have h5 := iteBF ey2 hb
    refine rl.run 3 rfl ?_
    refine rl.gen rfl rfl fun b hb => ?_
    cases b
    ·have h6 := iteBF h5 hb
     refine rl.run 4 rfl ?_
     refine rl.gen rfl rfl fun b hb => ?_
     cases b
     ·have h7 := iteBF h6 hb
      refine rl.run 1 rfl (rl.done ?_)
      cases h7
      exact ⟨_, rfl, (Gh.ren0 [0, 1] (.cells rfl rfl (.keep .int (.keep .int (.keep .int (.keep .int (.keep .int (.keep .str (.keep .str (.keep .str .nil)))))))) (.cells rfl rfl (.keep .int (.keep .int (.keep .int (.keep .int (.keep .int (.keep .str (.keep .str (.keep .str .nil)))))))) .nil)) rfl (.cons rfl (.ptr rfl) (.cons rfl (.ptr rfl) (.cons rfl (.dat .bool) (.cons rfl (.dat .bool) .nil)))))⟩
     ·have h8 := iteBT h6 hb
      refine rl.run 1 rfl (rl.done ?_)
      cases h8
      exact ⟨_, rfl, (Gh.ren0 [0, 1] (.cells rfl rfl (.keep .int (.keep .int (.keep .int (.keep .int (.keep .int (.keep .str (.keep .str (.keep .str .nil)))))))) (.cells rfl rfl (.keep .int (.keep .int (.keep .int (.keep .int (.keep .int (.keep .str (.keep .str (.keep .str .nil)))))))) .nil)) rfl (.cons rfl (.ptr rfl) (.cons rfl (.ptr rfl) (.cons rfl (.dat .bool) (.cons rfl (.dat .bool) .nil)))))⟩
    ·have h9 := iteBT h5 hb
     refine rl.run 6 rfl (rl.done ?_)
     cases h9
     exact ⟨_, rfl, (Gh.ren0 [0, 1] (.cells rfl rfl (.keep .int (.keep .int (.keep .int (.keep .int (.keep .int (.keep .str (.keep .str (.keep .str .nil)))))))) (.cells rfl rfl (.keep .int (.keep .int (.keep .int (.keep .int (.keep .int (.keep .str (.keep .str (.keep .str .nil)))))))) .nil)) rfl (.cons rfl (.ptr rfl) (.cons rfl (.ptr rfl) (.cons rfl (.dat .bool) (.cons rfl (.dat .bool) .nil)))))⟩
   ·have h10 := iteBT ey2 hb
    refine rl.run 10 rfl (rl.done ?_)
    cases h10
    exact ⟨_, rfl, (Gh.ren0 [0, 1] (.cells rfl rfl (.keep .int (.keep .int (.keep .int (.keep .int (.keep .int (.keep .str (.keep .str (.keep .str .nil)))))))) (.cells rfl rfl (.keep .int (.keep .int (.keep .int (.keep .int (.keep .int (.keep .str (.keep .str (.keep .str .nil)))))))) .nil)) rfl (.cons rfl (.ptr rfl) (.cons rfl (.ptr rfl) (.cons rfl (.dat .bool) (.cons rfl (.dat .bool) .nil)))))⟩
  ·intro y hC
   subst hC
   obtain ⟨y3, ey3, h11⟩ := bindS h4
   refine RW.cutq (σ := Bool × Int) (fun y3 => [(1, .ptr 0 0), (3, .ptr 1 0), (4, .bool y3.1)]) (fun y3 => [some ⟨[.int .i64 x0.Kind, .int .i64 x0.Valid, .int .i64 x0.Uid, .int .i64 x0.Next, .int .i64 x0.Flags, .str x0.User, .str x0.Name, .str x0.Text], 0⟩, some ⟨[.int .i64 0, .int .i64 0, .int .i64 y3.2, .int .i64 x0.Next, .int .i64 x0.Flags, .str x0.User, .str x0.Name, .str x0.Text], 0⟩]) (fun y => y3 = y) (fun _ _ _ _ g h => RW.gh g h) ?_ ?_
   ·cases hb : y2
    ·have h12 := iteBF ey3 hb
     refine RW.cond_f rfl (RW.skip ?_)
     cases h12
     exact ⟨_, rfl, (Gh.ren0 [0, 1] (.cells rfl rfl (.keep .int (.keep .int (.keep .int (.keep .int (.keep .int (.keep .str (.keep .str (.keep .str .nil)))))))) (.cells rfl rfl (.keep .int (.keep .int (.keep .int (.keep .int (.keep .int (.keep .str (.keep .str (.keep .str .nil)))))))) .nil)) rfl (.cons rfl (.ptr rfl) (.cons rfl (.ptr rfl) (.cons rfl (.dat .bool) .nil))))⟩
    ·have h13 := iteBT ey3 hb
     refine RW.cond_t rfl (RW.sreg (rl.run 2 rfl ?_))
     obtain ⟨v4, e4, h14⟩ := bindS h13
     refine rl.call rfl rfl rfl (CallW.val (r' := .bool v4) ok_impl_in (law_impl_in e4) (.cons .int (.cons .int (.cons .int .nil))) .refl ?_)
     cases hb : v4
     ·have h15 := iteBF h14 hb
      refine rl.run 1 rfl (rl.done (RW.reg (rl.run 2 rfl (rl.done ?_))))
      cases h15
      exact ⟨_, rfl, (Gh.ren0 [0, 1] (.cells rfl rfl (.keep .int (.keep .int (.keep .int (.keep .int (.keep .int (.keep .str (.keep .str (.keep .str .nil)))))))) (.cells rfl rfl (.keep .int (.keep .int (.keep .int (.keep .int (.keep .int (.keep .str (.keep .str (.keep .str .nil)))))))) .nil)) rfl (.cons rfl (.ptr rfl) (.cons rfl (.ptr rfl) (.cons rfl (.dat .bool) .nil))))⟩
     ·have h16 := iteBT h14 hb
      refine rl.run 1 rfl (rl.done (RW.reg (rl.run 2 rfl (rl.done ?_))))
      cases h16
      exact ⟨_, rfl, (Gh.ren0 [0, 1] (.cells rfl rfl (.keep .int (.keep .int (.keep .int (.keep .int (.keep .int (.keep .str (.keep .str (.keep .str .nil)))))))) (.cells rfl rfl (.keep .int (.keep .int (.keep .int (.keep .int (.keep .int (.keep .str (.keep .str (.keep .str .nil)))))))) .nil)) rfl (.cons rfl (.ptr rfl) (.cons rfl (.ptr rfl) (.cons rfl (.dat .bool) .nil))))⟩
   ·intro y hC
    subst hC
    refine RW.seq (RW.seq ?_)
    obtain ⟨y5, ey5, h17⟩ := bindS h11
    refine RW.cutq (σ := Bool) (fun y5 => [(1, .ptr 0 0), (3, .ptr 1 0), (4, .bool y3.1), (36, .bool y5)]) (fun y5 => [some ⟨[.int .i64 x0.Kind, .int .i64 x0.Valid, .int .i64 x0.Uid, .int .i64 x0.Next, .int .i64 x0.Flags, .str x0.User, .str x0.Name, .str x0.Text], 0⟩, some ⟨[.int .i64 0, .int .i64 0, .int .i64 y3.2, .int .i64 x0.Next, .int .i64 x0.Flags, .str x0.User, .str x0.Name, .str x0.Text], 0⟩]) (fun y => y5 = y) (fun _ _ _ _ g h => RW.gh g h) ?_ ?_
    ·refine RW.reg ?_
     refine rl.run 2 rfl ?_
     refine rl.gen rfl rfl fun b hb => ?_
     cases b
     ·have h18 := iteBF ey5 hb
      refine rl.run 3 rfl ?_
      refine rl.gen rfl rfl fun b hb => ?_
      cases b
      ·have h19 := iteBF h18 hb
       refine rl.run 1 rfl (rl.done ?_)
       cases h19
       exact ⟨_, rfl, (Gh.ren0 [0, 1] (.cells rfl rfl (.keep .int (.keep .int (.keep .int (.keep .int (.keep .int (.keep .str (.keep .str (.keep .str .nil)))))))) (.cells rfl rfl (.keep .int (.keep .int (.keep .int (.keep .int (.keep .int (.keep .str (.keep .str (.keep .str .nil)))))))) .nil)) rfl (.cons rfl (.ptr rfl) (.cons rfl (.ptr rfl) (.cons rfl (.dat .bool) (.cons rfl (.dat .bool) .nil)))))⟩
      ·have h20 := iteBT h18 hb
       refine rl.run 1 rfl (rl.done ?_)
       cases h20
       exact ⟨_, rfl, (Gh.ren0 [0, 1] (.cells rfl rfl (.keep .int (.keep .int (.keep .int (.keep .int (.keep .int (.keep .str (.keep .str (.keep .str .nil)))))))) (.cells rfl rfl (.keep .int (.keep .int (.keep .int (.keep .int (.keep .int (.keep .str (.keep .str (.keep .str .nil)))))))) .nil)) rfl (.cons rfl (.ptr rfl) (.cons rfl (.ptr rfl) (.cons rfl (.dat .bool) (.cons rfl (.dat .bool) .nil)))))⟩
     ·have h21 := iteBT ey5 hb
      refine rl.run 5 rfl (rl.done ?_)
      cases h21
      exact ⟨_, rfl, (Gh.ren0 [0, 1] (.cells rfl rfl (.keep .int (.keep .int (.keep .int (.keep .int (.keep .int (.keep .str (.keep .str (.keep .str .nil)))))))) (.cells rfl rfl (.keep .int (.keep .int (.keep .int (.keep .int (.keep .int (.keep .str (.keep .str (.keep .str .nil)))))))) .nil)) rfl (.cons rfl (.ptr rfl) (.cons rfl (.ptr rfl) (.cons rfl (.dat .bool) (.cons rfl (.dat .bool) .nil)))))⟩
    ·intro y hC
     subst hC
     obtain ⟨y6, ey6, h22⟩ := bindS h17
     refine RW.cutq (σ := Bool × Int) (fun y6 => [(1, .ptr 0 0), (3, .ptr 1 0), (4, .bool y6.1)]) (fun y6 => [some ⟨[.int .i64 x0.Kind, .int .i64 x0.Valid, .int .i64 x0.Uid, .int .i64 x0.Next, .int .i64 x0.Flags, .str x0.User, .str x0.Name, .str x0.Text], 0⟩, some ⟨[.int .i64 0, .int .i64 0, .int .i64 y3.2, .int .i64 x0.Next, .int .i64 y6.2, .str x0.User, .str x0.Name, .str x0.Text], 0⟩]) (fun y => y6 = y) (fun _ _ _ _ g h => RW.gh g h) ?_ ?_
     ·cases hb : y5
      ·have h23 := iteBF ey6 hb
       refine RW.cond_f rfl (RW.skip ?_)
       cases h23
       exact ⟨_, rfl, (Gh.ren0 [0, 1] (.cells rfl rfl (.keep .int (.keep .int (.keep .int (.keep .int (.keep .int (.keep .str (.keep .str (.keep .str .nil)))))))) (.cells rfl rfl (.keep .int (.keep .int (.keep .int (.keep .int (.keep .int (.keep .str (.keep .str (.keep .str .nil)))))))) .nil)) rfl (.cons rfl (.ptr rfl) (.cons rfl (.ptr rfl) (.cons rfl (.dat .bool) .nil))))⟩
      ·have h24 := iteBT ey6 hb
       refine RW.cond_t rfl (RW.seq ?_)
       obtain ⟨y7, ey7, h25⟩ := bindS h24
       refine RW.cutq (σ := Bool) (fun y7 => [(1, .ptr 0 0), (3, .ptr 1 0), (4, .bool y7)]) (fun y7 => [some ⟨[.int .i64 x0.Kind, .int .i64 x0.Valid, .int .i64 x0.Uid, .int .i64 x0.Next, .int .i64 x0.Flags, .str x0.User, .str x0.Name, .str x0.Text], 0⟩, some ⟨[.int .i64 0, .int .i64 0, .int .i64 y3.2, .int .i64 x0.Next, .int .i64 x0.Flags, .str x0.User, .str x0.Name, .str x0.Text], 0⟩]) (fun y => y7 = y) (fun _ _ _ _ g h => RW.gh g h) ?_ ?_
       ·refine RW.reg ?_
        refine rl.run 2 rfl ?_
        cases hb : y3.1
        ·have h26 := iteBF ey7 hb
         refine rl.run 5 rfl (rl.done ?_)
         cases h26
         exact ⟨_, rfl, (Gh.ren0 [0, 1] (.cells rfl rfl (.keep .int (.keep .int (.keep .int (.keep .int (.keep .int (.keep .str (.keep .str (.keep .str .nil)))))))) (.cells rfl rfl (.keep .int (.keep .int (.keep .int (.keep .int (.keep .int (.keep .str (.keep .str (.keep .str .nil)))))))) .nil)) rfl (.cons rfl (.ptr rfl) (.cons rfl (.ptr rfl) (.cons rfl (.dat .bool) .nil))))⟩
        ·have h27 := iteBT ey7 hb
         refine rl.run 2 rfl ?_
         obtain ⟨v8, e8, h28⟩ := bindS h27
         refine rl.call rfl rfl rfl (CallW.val (r' := .bool v8) ok_impl_in (law_impl_in e8) (.cons .int (.cons .int (.cons .int .nil))) .refl ?_)
         cases hb : v8
         ·have h29 := iteBF h28 hb
          refine rl.run 2 rfl (rl.done ?_)
          cases h29
          exact ⟨_, rfl, (Gh.ren0 [0, 1] (.cells rfl rfl (.keep .int (.keep .int (.keep .int (.keep .int (.keep .int (.keep .str (.keep .str (.keep .str .nil)))))))) (.cells rfl rfl (.keep .int (.keep .int (.keep .int (.keep .int (.keep .int (.keep .str (.keep .str (.keep .str .nil)))))))) .nil)) rfl (.cons rfl (.ptr rfl) (.cons rfl (.ptr rfl) (.cons rfl (.dat .bool) .nil))))⟩
         ·have h30 := iteBT h28 hb
          refine rl.run 2 rfl (rl.done ?_)
          cases h30
          exact ⟨_, rfl, (Gh.ren0 [0, 1] (.cells rfl rfl (.keep .int (.keep .int (.keep .int (.keep .int (.keep .int (.keep .str (.keep .str (.keep .str .nil)))))))) (.cells rfl rfl (.keep .int (.keep .int (.keep .int (.keep .int (.keep .int (.keep .str (.keep .str (.keep .str .nil)))))))) .nil)) rfl (.cons rfl (.ptr rfl) (.cons rfl (.ptr rfl) (.cons rfl (.dat .bool) .nil))))⟩
       ·intro y hC
        subst hC
        refine RW.reg (rl.run 2 rfl (rl.done ?_))
        cases h25
        exact ⟨_, rfl, (Gh.ren0 [0, 1] (.cells rfl rfl (.keep .int (.keep .int (.keep .int (.keep .int (.keep .int (.keep .str (.keep .str (.keep .str .nil)))))))) (.cells rfl rfl (.keep .int (.keep .int (.keep .int (.keep .int (.keep .int (.keep .str (.keep .str (.keep .str .nil)))))))) .nil)) rfl (.cons rfl (.ptr rfl) (.cons rfl (.ptr rfl) (.cons rfl (.dat .bool) .nil))))⟩
     ·intro y hC
      subst hC
      refine RW.seq (RW.sreg (rl.run 2 rfl (rl.done ?_)))
      obtain ⟨y9, ey9, h31⟩ := bindS h22
      refine RW.cutq (σ := Bool × Int × (List UInt8) × (List UInt8) × (List UInt8)) (fun y9 => [(3, .ptr 0 0), (4, .bool y9.1)]) (fun y9 => [some ⟨[.int .i64 0, .int .i64 0, .int .i64 y3.2, .int .i64 y9.2.1, .int .i64 y6.2, .str y9.2.2.1, .str y9.2.2.2.1, .str y9.2.2.2.2], 0⟩]) (fun y => y9 = .inr y) (fun _ _ _ _ g h => RW.gh g h) ?_ ?_
      ·refine RW.blk ?_
       refine RW.sreg ?_
       refine rl.gen rfl rfl fun b hb => ?_
       cases b
       ·have h32 := iteBF ey9 hb
        refine rl.run 1 rfl (rl.done (RW.cond_f rfl (RW.sreg ?_)))
        refine rl.gen rfl rfl fun b hb => ?_
        cases b
        ·have h33 := iteBF h32 hb
         refine rl.run 1 rfl (rl.done (RW.cond_f rfl (RW.seq (RW.sreg ?_))))
         refine rl.gen rfl rfl fun b hb => ?_
         cases b
         ·have h34 := iteBF h33 hb
          refine rl.run 1 rfl (rl.done (RW.cond_f rfl (RW.sreg ?_)))
          refine rl.gen rfl rfl fun b hb => ?_
          cases b
          ·have h35 := iteBF h34 hb
           refine rl.run 1 rfl (rl.done (RW.cond_f rfl (RW.reg ?_)))
           refine rl.gen rfl rfl fun b hb => ?_
           cases b
           ·have h36 := iteBF h35 hb
            refine rl.run 1 rfl (rl.done (RW.cond_f rfl (RW.sreg (rl.run 1 rfl (rl.done ?_)))))
            refine RW.keep [2] (a' := [(2, .bool false)]) (H' := [some ⟨[.int .i64 x0.Kind, .int .i64 x0.Valid, .int .i64 x0.Uid, .int .i64 x0.Next, .int .i64 x0.Flags, .str x0.User, .str x0.Name, .str x0.Text], 0⟩, some ⟨[.int .i64 0, .int .i64 0, .int .i64 y3.2, .int .i64 x0.Next, .int .i64 y6.2, .str x0.User, .str x0.Name, .str x0.Text], 0⟩]) rfl rfl ?_
            refine RW.ret ?_
            cases h36
            have h37 := elimL h31 rfl
            cases h37
            exact RRet.mk rfl .bool (by first | decide | simp)
           ·have h38 := iteBT h35 hb
            refine rl.run 1 rfl (rl.done (RW.cond_t rfl (RW.skip ?_)))
            cases h38
            exact ⟨_, rfl, (Gh.ren0 [1] (.cells rfl rfl (.keep .int (.keep .int (.keep .int (.keep .int (.keep .int (.keep .str (.keep .str (.keep .str .nil)))))))) .nil) rfl (.cons rfl (.ptr rfl) (.cons rfl (.dat .bool) .nil)))⟩
          ·have h39 := iteBT h34 hb
           refine rl.run 1 rfl (rl.done (RW.cond_t rfl (RW.skip (RW.cond_t rfl (RW.skip ?_)))))
           cases h39
           exact ⟨_, rfl, (Gh.ren0 [1] (.cells rfl rfl (.keep .int (.keep .int (.keep .int (.keep .int (.keep .int (.keep .str (.keep .str (.keep .str .nil)))))))) .nil) rfl (.cons rfl (.ptr rfl) (.cons rfl (.dat .bool) .nil)))⟩
         ·have h40 := iteBT h33 hb
          refine rl.run 1 rfl (rl.done (RW.cond_t rfl (RW.skip (RW.cond_t rfl (RW.skip ?_)))))
          cases h40
          exact ⟨_, rfl, (Gh.ren0 [1] (.cells rfl rfl (.keep .int (.keep .int (.keep .int (.keep .int (.keep .int (.keep .str (.keep .str (.keep .str .nil)))))))) .nil) rfl (.cons rfl (.ptr rfl) (.cons rfl (.dat .bool) .nil)))⟩
        ·have h41 := iteBT h32 hb
         refine rl.run 1 rfl (rl.done (RW.cond_t rfl (RW.seq ?_)))
         obtain ⟨y10, ey10, h42⟩ := bindS h41
         refine RW.cutq (σ := Bool) (fun y10 => [(3, .ptr 0 0), (4, .bool y10)]) (fun y10 => [some ⟨[.int .i64 0, .int .i64 0, .int .i64 y3.2, .int .i64 x0.Next, .int .i64 y6.2, .str x0.User, .str x0.Name, .str x0.Text], 0⟩]) (fun y => y10 = y) (fun _ _ _ _ g h => RW.gh g h) ?_ ?_
         ·refine RW.reg ?_
          refine rl.run 2 rfl ?_
          cases hb : y6.1
          ·have h43 := iteBF ey10 hb
           refine rl.run 6 rfl (rl.done ?_)
           cases h43
           exact ⟨_, rfl, (Gh.ren0 [1] (.cells rfl rfl (.keep .int (.keep .int (.keep .int (.keep .int (.keep .int (.keep .str (.keep .str (.keep .str .nil)))))))) .nil) rfl (.cons rfl (.ptr rfl) (.cons rfl (.dat .bool) .nil)))⟩
          ·have h44 := iteBT ey10 hb
           refine rl.run 3 rfl ?_
           refine rl.gen rfl rfl fun b hb => ?_
           cases b
           ·have h45 := iteBF h44 hb
            refine rl.run 2 rfl (rl.done ?_)
            cases h45
            exact ⟨_, rfl, (Gh.ren0 [1] (.cells rfl rfl (.keep .int (.keep .int (.keep .int (.keep .int (.keep .int (.keep .str (.keep .str (.keep .str .nil)))))))) .nil) rfl (.cons rfl (.ptr rfl) (.cons rfl (.dat .bool) .nil)))⟩
           ·have h46 := iteBT h44 hb
            refine rl.run 2 rfl (rl.done ?_)
            cases h46
            exact ⟨_, rfl, (Gh.ren0 [1] (.cells rfl rfl (.keep .int (.keep .int (.keep .int (.keep .int (.keep .int (.keep .str (.keep .str (.keep .str .nil)))))))) .nil) rfl (.cons rfl (.ptr rfl) (.cons rfl (.dat .bool) .nil)))⟩
         ·intro y hC
          subst hC
          refine RW.reg (rl.run 2 rfl (rl.done ?_))
          cases h42
          exact ⟨_, rfl, (Gh.ren0 [0] (.cells rfl rfl (.keep .int (.keep .int (.keep .int (.keep .int (.keep .int (.keep .str (.keep .str (.keep .str .nil)))))))) .nil) rfl (.cons rfl (.ptr rfl) (.cons rfl (.dat .bool) .nil)))⟩
       ·have h47 := iteBT ey9 hb
        refine rl.run 1 rfl (rl.done (RW.cond_t rfl (RW.seq ?_)))
        obtain ⟨y11, ey11, h48⟩ := bindS h47
        refine RW.cutq (σ := Bool) (fun y11 => [(3, .ptr 0 0), (4, .bool y11)]) (fun y11 => [some ⟨[.int .i64 0, .int .i64 0, .int .i64 y3.2, .int .i64 x0.Next, .int .i64 y6.2, .str x0.User, .str x0.Name, .str x0.Text], 0⟩]) (fun y => y11 = y) (fun _ _ _ _ g h => RW.gh g h) ?_ ?_
        ·refine RW.reg ?_
         refine rl.run 2 rfl ?_
         obtain ⟨v12, e12, h49⟩ := bindS ey11
         refine rl.call rfl rfl rfl (CallW.val (r' := .bool v12) ok_impl_WordOk (law_impl_WordOk e12) (.cons .str .nil) .refl ?_)
         cases hb : v12
         ·have h50 := iteBF h49 hb
          refine rl.run 11 rfl (rl.done ?_)
          cases h50
          exact ⟨_, rfl, (Gh.ren0 [1] (.cells rfl rfl (.keep .int (.keep .int (.keep .int (.keep .int (.keep .int (.keep .str (.keep .str (.keep .str .nil)))))))) .nil) rfl (.cons rfl (.ptr rfl) (.cons rfl (.dat .bool) .nil)))⟩
         ·have h51 := iteBT h49 hb
          refine rl.run 3 rfl ?_
          obtain ⟨v13, e13, h52⟩ := bindS h51
          refine rl.call rfl rfl rfl (CallW.val (r' := .bool v13) ok_impl_WordOk (law_impl_WordOk e13) (.cons .str .nil) .refl ?_)
          cases hb : v13
          ·have h53 := iteBF h52 hb
           refine rl.run 7 rfl (rl.done ?_)
           cases h53
           exact ⟨_, rfl, (Gh.ren0 [1] (.cells rfl rfl (.keep .int (.keep .int (.keep .int (.keep .int (.keep .int (.keep .str (.keep .str (.keep .str .nil)))))))) .nil) rfl (.cons rfl (.ptr rfl) (.cons rfl (.dat .bool) .nil)))⟩
          ·have h54 := iteBT h52 hb
           refine rl.run 4 rfl ?_
           obtain ⟨v14, e14, h55⟩ := bindS h54
           refine rl.call rfl rfl rfl (CallW.val (r' := .bool v14) ok_impl_in (law_impl_in e14) (.cons .int (.cons .int (.cons .int .nil))) .refl ?_)
           cases hb : v14
           ·have h56 := iteBF h55 hb
            refine rl.run 2 rfl (rl.done ?_)
            cases h56
            exact ⟨_, rfl, (Gh.ren0 [1] (.cells rfl rfl (.keep .int (.keep .int (.keep .int (.keep .int (.keep .int (.keep .str (.keep .str (.keep .str .nil)))))))) .nil) rfl (.cons rfl (.ptr rfl) (.cons rfl (.dat .bool) .nil)))⟩
           ·have h57 := iteBT h55 hb
            refine rl.run 2 rfl (rl.done ?_)
            cases h57
            exact ⟨_, rfl, (Gh.ren0 [1] (.cells rfl rfl (.keep .int (.keep .int (.keep .int (.keep .int (.keep .int (.keep .str (.keep .str (.keep .str .nil)))))))) .nil) rfl (.cons rfl (.ptr rfl) (.cons rfl (.dat .bool) .nil)))⟩
        ·intro y hC
         subst hC
         refine RW.reg (rl.run 6 rfl (rl.done ?_))
         cases h48
         exact ⟨_, rfl, (Gh.ren0 [0] (.cells rfl rfl (.keep .int (.keep .int (.keep .int (.keep .int (.keep .int (.keep .str (.keep .str (.keep .str .nil)))))))) .nil) rfl (.cons rfl (.ptr rfl) (.cons rfl (.dat .bool) .nil)))⟩
      ·intro y9_ hC
       have h31 := elimR h31 hC
       refine RW.sreg (rl.run 2 rfl ?_)
       cases hb : y9_.1
       ·have h58 := iteBF h31 hb
        refine rl.run 5 rfl (rl.done (RW.ret ?_))
        cases h58
        exact RRet.mk rfl .bool (by first | decide | simp)
       ·have h59 := iteBT h31 hb
        refine rl.run 5 rfl (rl.done (RW.ret ?_))
        cases h59
        exact RRet.mk rfl .bool (by first | decide | simp)
set_option maxHeartbeats 2000000 in
theorem law_impl_ReadRec {x0 : List UInt8} {r : TRec × Bool} (hF : F_impl_ReadRec x0 = some r) : PCalls Try.prog 179 [.str x0] (.tup [.agg (enc_TRec true r.1), .bool r.2]) := by
 refine PCalls.of_r k_impl_ReadRec rfl ?_
 unfold F_impl_ReadRec at hF
 refine RW.sreg (rl.run 2 rfl (rl.done (RW.seq (RW.sreg (rl.run 1 rfl ?_)))))
 refine rl.gen rfl rfl fun b hb => ?_
 cases b
 ·have h1 := iteBF hF hb
  refine rl.done (RW.cond_f rfl (RW.skip (RW.sreg (rl.run 1 rfl ?_))))
  obtain ⟨v1, e1, h2⟩ := bindS h1
  refine rl.op (x_idx rfl rfl e1) ?_
  refine rl.run 4 rfl (rl.done (RW.sreg (rl.run 1 rfl (rl.done (RW.seq (RW.sreg (rl.run 7 rfl (rl.done (RW.blk ?_)))))))))
  refine RW.loopIn ?_
  refine RWIn.round ?_
  refine RW.sreg (rl.run 1 rfl (rl.done ?_))
  refine RW.keep [0, 2, 4, 5, 27, 28, 29, 30] (a' := [(0, .str x0), (2, .ptr 0 0), (4, .ptr 1 0), (5, .int .i64 1), (27, .sl 2 0 4), (28, .int .i64 4), (29, .int .i64 0), (30, .bool true)]) (H' := [some ⟨[.int .i64 0, .int .i64 0, .int .i64 0, .int .i64 0, .int .i64 0, .str [], .str [], .str []], 0⟩, some ⟨[.int .i64 (w64 (v1.toNat : Int)), .int .i64 0, .int .i64 0, .int .i64 0, .int .i64 0, .str [], .str [], .str []], 0⟩, some ⟨[.ptr 1 1, .ptr 1 2, .ptr 1 3, .ptr 1 4], 1⟩]) rfl rfl ?_
  refine RW.seq (RW.cond_t rfl (RW.skip (RW.seq (RW.blk (RW.sreg (rl.run 3 rfl (rl.done (RW.sreg (rl.run 2 rfl ?_)))))))))
  obtain ⟨v2, e2, h3⟩ := bindS h2
  refine rl.call rfl rfl rfl (CallW.val (r' := .tup [.int .i64 v2.1, .int .i64 v2.2.1, .bool v2.2.2]) ok_impl_ReadVar (law_impl_ReadVar e2) (.cons .str (.cons .int .nil)) (FlL.tup (.cons .refl (.cons .refl (.cons .refl .nil)))) ?_)
  refine rl.run 7 rfl (rl.done ?_)
  refine RW.keep [0, 2, 4, 7, 8, 9, 10, 27, 28, 29] (a' := [(0, .str x0), (2, .ptr 0 0), (4, .ptr 1 0), (7, .ptr 1 1), (8, .int .i64 v2.1), (9, .int .i64 v2.2.1), (10, .bool v2.2.2), (27, .sl 2 0 4), (28, .int .i64 4), (29, .int .i64 0)]) (H' := [some ⟨[.int .i64 0, .int .i64 0, .int .i64 0, .int .i64 0, .int .i64 0, .str [], .str [], .str []], 0⟩, some ⟨[.int .i64 (w64 (v1.toNat : Int)), .int .i64 0, .int .i64 0, .int .i64 0, .int .i64 0, .str [], .str [], .str []], 0⟩, some ⟨[.ptr 1 1, .ptr 1 2, .ptr 1 3, .ptr 1 4], 1⟩]) rfl rfl ?_
  refine RW.seq (RW.sreg (rl.run 2 rfl (rl.done ?_)))
  cases hb : (!v2.2.2)
  ·have h4 := iteBF h3 hb
   refine RW.cond_f rfl (RW.skip (RW.sreg (rl.run 4 rfl (rl.done ?_))))
   refine RW.keep [0, 2, 4, 9, 27, 28, 29] (a' := [(0, .str x0), (2, .ptr 0 0), (4, .ptr 1 0), (9, .int .i64 v2.2.1), (27, .sl 2 0 4), (28, .int .i64 4), (29, .int .i64 0)]) (H' := [some ⟨[.int .i64 0, .int .i64 0, .int .i64 0, .int .i64 0, .int .i64 0, .str [], .str [], .str []], 0⟩, some ⟨[.int .i64 (w64 (v1.toNat : Int)), .int .i64 v2.1, .int .i64 0, .int .i64 0, .int .i64 0, .str [], .str [], .str []], 0⟩, some ⟨[.ptr 1 1, .ptr 1 2, .ptr 1 3, .ptr 1 4], 1⟩]) rfl rfl ?_
   refine RW.reg (rl.run 2 rfl (rl.done (RW.reg (rl.run 2 rfl (rl.done ?_)))))
   refine RWIn.round ?_
   refine RW.sreg (rl.run 1 rfl (rl.done (RW.seq (RW.cond_t rfl (RW.skip (RW.seq (RW.blk (RW.sreg (rl.run 3 rfl (rl.done ?_))))))))))
   refine RW.keep [0, 2, 4, 5, 7, 27, 28, 29] (a' := [(0, .str x0), (2, .ptr 0 0), (4, .ptr 1 0), (5, .int .i64 v2.2.1), (7, .ptr 1 2), (27, .sl 2 0 4), (28, .int .i64 4), (29, .int .i64 1)]) (H' := [some ⟨[.int .i64 0, .int .i64 0, .int .i64 0, .int .i64 0, .int .i64 0, .str [], .str [], .str []], 0⟩, some ⟨[.int .i64 (w64 (v1.toNat : Int)), .int .i64 v2.1, .int .i64 0, .int .i64 0, .int .i64 0, .str [], .str [], .str []], 0⟩, some ⟨[.ptr 1 1, .ptr 1 2, .ptr 1 3, .ptr 1 4], 1⟩]) rfl rfl ?_
   refine RW.sreg (rl.run 2 rfl ?_)
   obtain ⟨v3, e3, h5⟩ := bindS h4
   refine rl.call rfl rfl rfl (CallW.val (r' := .tup [.int .i64 v3.1, .int .i64 v3.2.1, .bool v3.2.2]) ok_impl_ReadVar (law_impl_ReadVar e3) (.cons .str (.cons .int .nil)) (FlL.tup (.cons .refl (.cons .refl (.cons .refl .nil)))) ?_)
   refine rl.run 7 rfl (rl.done ?_)
   refine RW.keep [0, 2, 4, 7, 8, 9, 10, 27, 28, 29] (a' := [(0, .str x0), (2, .ptr 0 0), (4, .ptr 1 0), (7, .ptr 1 2), (8, .int .i64 v3.1), (9, .int .i64 v3.2.1), (10, .bool v3.2.2), (27, .sl 2 0 4), (28, .int .i64 4), (29, .int .i64 1)]) (H' := [some ⟨[.int .i64 0, .int .i64 0, .int .i64 0, .int .i64 0, .int .i64 0, .str [], .str [], .str []], 0⟩, some ⟨[.int .i64 (w64 (v1.toNat : Int)), .int .i64 v2.1, .int .i64 0, .int .i64 0, .int .i64 0, .str [], .str [], .str []], 0⟩, some ⟨[.ptr 1 1, .ptr 1 2, .ptr 1 3, .ptr 1 4], 1⟩]) rfl rfl ?_
   refine RW.seq (RW.sreg (rl.run 2 rfl (rl.done ?_)))
   cases hb : (!v3.2.2)
   ·have h6 := iteBF h5 hb
    refine RW.cond_f rfl (RW.skip (RW.sreg (rl.run 4 rfl (rl.done ?_))))
    refine RW.keep [0, 2, 4, 9, 27, 28, 29] (a' := [(0, .str x0), (2, .ptr 0 0), (4, .ptr 1 0), (9, .int .i64 v3.2.1), (27, .sl 2 0 4), (28, .int .i64 4), (29, .int .i64 1)]) (H' := [some ⟨[.int .i64 0, .int .i64 0, .int .i64 0, .int .i64 0, .int .i64 0, .str [], .str [], .str []], 0⟩, some ⟨[.int .i64 (w64 (v1.toNat : Int)), .int .i64 v2.1, .int .i64 v3.1, .int .i64 0, .int .i64 0, .str [], .str [], .str []], 0⟩, some ⟨[.ptr 1 1, .ptr 1 2, .ptr 1 3, .ptr 1 4], 1⟩]) rfl rfl ?_
    refine RW.reg (rl.run 2 rfl (rl.done (RW.reg (rl.run 2 rfl (rl.done ?_)))))
    refine RWIn.round ?_
    refine RW.sreg (rl.run 1 rfl (rl.done (RW.seq (RW.cond_t rfl (RW.skip (RW.seq (RW.blk (RW.sreg (rl.run 3 rfl (rl.done ?_))))))))))
    refine RW.keep [0, 2, 4, 5, 7, 27, 28, 29] (a' := [(0, .str x0), (2, .ptr 0 0), (4, .ptr 1 0), (5, .int .i64 v3.2.1), (7, .ptr 1 3), (27, .sl 2 0 4), (28, .int .i64 4), (29, .int .i64 2)]) (H' := [some ⟨[.int .i64 0, .int .i64 0, .int .i64 0, .int .i64 0, .int .i64 0, .str [], .str [], .str []], 0⟩, some ⟨[.int .i64 (w64 (v1.toNat : Int)), .int .i64 v2.1, .int .i64 v3.1, .int .i64 0, .int .i64 0, .str [], .str [], .str []], 0⟩, some ⟨[.ptr 1 1, .ptr 1 2, .ptr 1 3, .ptr 1 4], 1⟩]) rfl rfl ?_
    refine RW.sreg (rl.run 2 rfl ?_)
    obtain ⟨v4, e4, h7⟩ := bindS h6
    refine rl.call rfl rfl rfl (CallW.val (r' := .tup [.int .i64 v4.1, .int .i64 v4.2.1, .bool v4.2.2]) ok_impl_ReadVar (law_impl_ReadVar e4) (.cons .str (.cons .int .nil)) (FlL.tup (.cons .refl (.cons .refl (.cons .refl .nil)))) ?_)
    refine rl.run 7 rfl (rl.done ?_)
    refine RW.keep [0, 2, 4, 7, 8, 9, 10, 27, 28, 29] (a' := [(0, .str x0), (2, .ptr 0 0), (4, .ptr 1 0), (7, .ptr 1 3), (8, .int .i64 v4.1), (9, .int .i64 v4.2.1), (10, .bool v4.2.2), (27, .sl 2 0 4), (28, .int .i64 4), (29, .int .i64 2)]) (H' := [some ⟨[.int .i64 0, .int .i64 0, .int .i64 0, .int .i64 0, .int .i64 0, .str [], .str [], .str []], 0⟩, some ⟨[.int .i64 (w64 (v1.toNat : Int)), .int .i64 v2.1, .int .i64 v3.1, .int .i64 0, .int .i64 0, .str [], .str [], .str []], 0⟩, some ⟨[.ptr 1 1, .ptr 1 2, .ptr 1 3, .ptr 1 4], 1⟩]) rfl rfl ?_
    refine RW.seq (RW.sreg (rl.run 2 rfl (rl.done ?_)))
    cases hb : (!v4.2.2)
    ·have h8 := iteBF h7 hb
     refine RW.cond_f rfl (RW.skip (RW.sreg (rl.run 4 rfl (rl.done ?_))))
     refine RW.keep [0, 2, 4, 9, 27, 28, 29] (a' := [(0, .str x0), (2, .ptr 0 0), (4, .ptr 1 0), (9, .int .i64 v4.2.1), (27, .sl 2 0 4), (28, .int .i64 4), (29, .int .i64 2)]) (H' := [some ⟨[.int .i64 0, .int .i64 0, .int .i64 0, .int .i64 0, .int .i64 0, .str [], .str [], .str []], 0⟩, some ⟨[.int .i64 (w64 (v1.toNat : Int)), .int .i64 v2.1, .int .i64 v3.1, .int .i64 v4.1, .int .i64 0, .str [], .str [], .str []], 0⟩, some ⟨[.ptr 1 1, .ptr 1 2, .ptr 1 3, .ptr 1 4], 1⟩]) rfl rfl ?_
     refine RW.reg (rl.run 2 rfl (rl.done (RW.reg (rl.run 2 rfl (rl.done ?_)))))
     refine RWIn.round ?_
     refine RW.sreg (rl.run 1 rfl (rl.done (RW.seq (RW.cond_t rfl (RW.skip (RW.seq (RW.blk (RW.sreg (rl.run 3 rfl (rl.done ?_))))))))))
     refine RW.keep [0, 2, 4, 5, 7, 27, 28, 29] (a' := [(0, .str x0), (2, .ptr 0 0), (4, .ptr 1 0), (5, .int .i64 v4.2.1), (7, .ptr 1 4), (27, .sl 2 0 4), (28, .int .i64 4), (29, .int .i64 3)]) (H' := [some ⟨[.int .i64 0, .int .i64 0, .int .i64 0, .int .i64 0, .int .i64 0, .str [], .str [], .str []], 0⟩, some ⟨[.int .i64 (w64 (v1.toNat : Int)), .int .i64 v2.1, .int .i64 v3.1, .int .i64 v4.1, .int .i64 0, .str [], .str [], .str []], 0⟩, some ⟨[.ptr 1 1, .ptr 1 2, .ptr 1 3, .ptr 1 4], 1⟩]) rfl rfl ?_
     refine RW.sreg (rl.run 2 rfl ?_)
     obtain ⟨v5, e5, h9⟩ := bindS h8
     refine rl.call rfl rfl rfl (CallW.val (r' := .tup [.int .i64 v5.1, .int .i64 v5.2.1, .bool v5.2.2]) ok_impl_ReadVar (law_impl_ReadVar e5) (.cons .str (.cons .int .nil)) (FlL.tup (.cons .refl (.cons .refl (.cons .refl .nil)))) ?_)
     refine rl.run 7 rfl (rl.done ?_)
     refine RW.keep [0, 2, 4, 7, 8, 9, 10, 27, 28, 29] (a' := [(0, .str x0), (2, .ptr 0 0), (4, .ptr 1 0), (7, .ptr 1 4), (8, .int .i64 v5.1), (9, .int .i64 v5.2.1), (10, .bool v5.2.2), (27, .sl 2 0 4), (28, .int .i64 4), (29, .int .i64 3)]) (H' := [some ⟨[.int .i64 0, .int .i64 0, .int .i64 0, .int .i64 0, .int .i64 0, .str [], .str [], .str []], 0⟩, some ⟨[.int .i64 (w64 (v1.toNat : Int)), .int .i64 v2.1, .int .i64 v3.1, .int .i64 v4.1, .int .i64 0, .str [], .str [], .str []], 0⟩, some ⟨[.ptr 1 1, .ptr 1 2, .ptr 1 3, .ptr 1 4], 1⟩]) rfl rfl ?_
     refine RW.seq (RW.sreg (rl.run 2 rfl (rl.done ?_)))
     cases hb : (!v5.2.2)
     ·have h10 := iteBF h9 hb
      refine RW.cond_f rfl (RW.skip (RW.sreg (rl.run 4 rfl (rl.done ?_))))
      refine RW.keep [0, 2, 4, 9, 27, 28, 29] (a' := [(0, .str x0), (2, .ptr 0 0), (4, .ptr 1 0), (9, .int .i64 v5.2.1), (27, .sl 2 0 4), (28, .int .i64 4), (29, .int .i64 3)]) (H' := [some ⟨[.int .i64 0, .int .i64 0, .int .i64 0, .int .i64 0, .int .i64 0, .str [], .str [], .str []], 0⟩, some ⟨[.int .i64 (w64 (v1.toNat : Int)), .int .i64 v2.1, .int .i64 v3.1, .int .i64 v4.1, .int .i64 v5.1, .str [], .str [], .str []], 0⟩, some ⟨[.ptr 1 1, .ptr 1 2, .ptr 1 3, .ptr 1 4], 1⟩]) rfl rfl ?_
      refine RW.reg (rl.run 2 rfl (rl.done (RW.reg (rl.run 2 rfl (rl.done ?_)))))
      refine RWIn.round ?_
      refine RW.sreg (rl.run 1 rfl (rl.done (RW.seq (RW.cond_f rfl (RW.exit (blkA_eq (RW.seq (RW.sreg (rl.run 6 rfl (rl.done ?_))))))))))
      refine RW.keep [0, 2, 4, 5, 51, 52, 53] (a' := [(0, .str x0), (2, .ptr 0 0), (4, .ptr 1 0), (5, .int .i64 v5.2.1), (51, .sl 3 0 3), (52, .int .i64 3), (53, .int .i64 0)]) (H' := [some ⟨[.int .i64 0, .int .i64 0, .int .i64 0, .int .i64 0, .int .i64 0, .str [], .str [], .str []], 0⟩, some ⟨[.int .i64 (w64 (v1.toNat : Int)), .int .i64 v2.1, .int .i64 v3.1, .int .i64 v4.1, .int .i64 v5.1, .str [], .str [], .str []], 0⟩, some ⟨[.ptr 1 1, .ptr 1 2, .ptr 1 3, .ptr 1 4], 1⟩, some ⟨[.ptr 1 5, .ptr 1 6, .ptr 1 7], 1⟩]) rfl rfl ?_
      refine RW.blk ?_
      refine RW.loopIn ?_
      refine RWIn.round ?_
      refine RW.sreg (rl.run 1 rfl (rl.done (RW.seq (RW.cond_t rfl (RW.skip (RW.seq (RW.blk (RW.sreg (rl.run 3 rfl (rl.done (RW.sreg ?_)))))))))))
      refine rl.run 2 rfl ?_
      obtain ⟨v6, e6, h11⟩ := bindS h10
      refine rl.call rfl rfl rfl (CallW.val (r' := .tup [.str v6.1, .int .i64 v6.2.1, .bool v6.2.2]) ok_impl_ReadShort (law_impl_ReadShort e6) (.cons .str (.cons .int .nil)) (FlL.tup (.cons .refl (.cons .refl (.cons .refl .nil)))) ?_)
      refine rl.run 7 rfl (rl.done ?_)
      refine RW.keep [0, 2, 4, 12, 13, 14, 15, 51, 52, 53] (a' := [(0, .str x0), (2, .ptr 0 0), (4, .ptr 1 0), (12, .ptr 1 5), (13, .str v6.1), (14, .int .i64 v6.2.1), (15, .bool v6.2.2), (51, .sl 3 0 3), (52, .int .i64 3), (53, .int .i64 0)]) (H' := [some ⟨[.int .i64 0, .int .i64 0, .int .i64 0, .int .i64 0, .int .i64 0, .str [], .str [], .str []], 0⟩, some ⟨[.int .i64 (w64 (v1.toNat : Int)), .int .i64 v2.1, .int .i64 v3.1, .int .i64 v4.1, .int .i64 v5.1, .str [], .str [], .str []], 0⟩, some ⟨[.ptr 1 1, .ptr 1 2, .ptr 1 3, .ptr 1 4], 1⟩, some ⟨[.ptr 1 5, .ptr 1 6, .ptr 1 7], 1⟩]) rfl rfl ?_
      refine RW.seq (RW.sreg (rl.run 2 rfl (rl.done ?_)))
      cases hb : (!v6.2.2)
      ·have h12 := iteBF h11 hb
       refine RW.cond_f rfl (RW.skip (RW.sreg (rl.run 4 rfl (rl.done ?_))))
       refine RW.keep [0, 2, 4, 14, 51, 52, 53] (a' := [(0, .str x0), (2, .ptr 0 0), (4, .ptr 1 0), (14, .int .i64 v6.2.1), (51, .sl 3 0 3), (52, .int .i64 3), (53, .int .i64 0)]) (H' := [some ⟨[.int .i64 0, .int .i64 0, .int .i64 0, .int .i64 0, .int .i64 0, .str [], .str [], .str []], 0⟩, some ⟨[.int .i64 (w64 (v1.toNat : Int)), .int .i64 v2.1, .int .i64 v3.1, .int .i64 v4.1, .int .i64 v5.1, .str v6.1, .str [], .str []], 0⟩, some ⟨[.ptr 1 1, .ptr 1 2, .ptr 1 3, .ptr 1 4], 1⟩, some ⟨[.ptr 1 5, .ptr 1 6, .ptr 1 7], 1⟩]) rfl rfl ?_
       refine RW.reg (rl.run 2 rfl (rl.done (RW.reg (rl.run 2 rfl (rl.done ?_)))))
       refine RWIn.round ?_
       refine RW.sreg (rl.run 1 rfl (rl.done (RW.seq (RW.cond_t rfl (RW.skip (RW.seq (RW.blk (RW.sreg (rl.run 3 rfl (rl.done ?_))))))))))
       refine RW.keep [0, 2, 4, 5, 12, 51, 52, 53] (a' := [(0, .str x0), (2, .ptr 0 0), (4, .ptr 1 0), (5, .int .i64 v6.2.1), (12, .ptr 1 6), (51, .sl 3 0 3), (52, .int .i64 3), (53, .int .i64 1)]) (H' := [some ⟨[.int .i64 0, .int .i64 0, .int .i64 0, .int .i64 0, .int .i64 0, .str [], .str [], .str []], 0⟩, some ⟨[.int .i64 (w64 (v1.toNat : Int)), .int .i64 v2.1, .int .i64 v3.1, .int .i64 v4.1, .int .i64 v5.1, .str v6.1, .str [], .str []], 0⟩, some ⟨[.ptr 1 1, .ptr 1 2, .ptr 1 3, .ptr 1 4], 1⟩, some ⟨[.ptr 1 5, .ptr 1 6, .ptr 1 7], 1⟩]) rfl rfl ?_
       refine RW.sreg (rl.run 2 rfl ?_)
       obtain ⟨v7, e7, h13⟩ := bindS h12
       refine rl.call rfl rfl rfl (CallW.val (r' := .tup [.str v7.1, .int .i64 v7.2.1, .bool v7.2.2]) ok_impl_ReadShort (law_impl_ReadShort e7) (.cons .str (.cons .int .nil)) (FlL.tup (.cons .refl (.cons .refl (.cons .refl .nil)))) ?_)
       refine rl.run 7 rfl (rl.done ?_)
       refine RW.keep [0, 2, 4, 12, 13, 14, 15, 51, 52, 53] (a' := [(0, .str x0), (2, .ptr 0 0), (4, .ptr 1 0), (12, .ptr 1 6), (13, .str v7.1), (14, .int .i64 v7.2.1), (15, .bool v7.2.2), (51, .sl 3 0 3), (52, .int .i64 3), (53, .int .i64 1)]) (H' := [some ⟨[.int .i64 0, .int .i64 0, .int .i64 0, .int .i64 0, .int .i64 0, .str [], .str [], .str []], 0⟩, some ⟨[.int .i64 (w64 (v1.toNat : Int)), .int .i64 v2.1, .int .i64 v3.1, .int .i64 v4.1, .int .i64 v5.1, .str v6.1, .str [], .str []], 0⟩, some ⟨[.ptr 1 1, .ptr 1 2, .ptr 1 3, .ptr 1 4], 1⟩, some ⟨[.ptr 1 5, .ptr 1 6, .ptr 1 7], 1⟩]) rfl rfl ?_
       refine RW.seq (RW.sreg (rl.run 2 rfl (rl.done ?_)))
       cases hb : (!v7.2.2)
       ·have h14 := iteBF h13 hb
        refine RW.cond_f rfl (RW.skip (RW.sreg (rl.run 4 rfl (rl.done ?_))))
        refine RW.keep [0, 2, 4, 14, 51, 52, 53] (a' := [(0, .str x0), (2, .ptr 0 0), (4, .ptr 1 0), (14, .int .i64 v7.2.1), (51, .sl 3 0 3), (52, .int .i64 3), (53, .int .i64 1)]) (H' := [some ⟨[.int .i64 0, .int .i64 0, .int .i64 0, .int .i64 0, .int .i64 0, .str [], .str [], .str []], 0⟩, some ⟨[.int .i64 (w64 (v1.toNat : Int)), .int .i64 v2.1, .int .i64 v3.1, .int .i64 v4.1, .int .i64 v5.1, .str v6.1, .str v7.1, .str []], 0⟩, some ⟨[.ptr 1 1, .ptr 1 2, .ptr 1 3, .ptr 1 4], 1⟩, some ⟨[.ptr 1 5, .ptr 1 6, .ptr 1 7], 1⟩]) rfl rfl ?_
        refine RW.reg (rl.run 2 rfl (rl.done (RW.reg (rl.run 2 rfl (rl.done ?_)))))
        refine RWIn.round ?_
        refine RW.sreg (rl.run 1 rfl (rl.done (RW.seq (RW.cond_t rfl (RW.skip (RW.seq (RW.blk (RW.sreg (rl.run 3 rfl (rl.done ?_))))))))))
        refine RW.keep [0, 2, 4, 5, 12, 51, 52, 53] (a' := [(0, .str x0), (2, .ptr 0 0), (4, .ptr 1 0), (5, .int .i64 v7.2.1), (12, .ptr 1 7), (51, .sl 3 0 3), (52, .int .i64 3), (53, .int .i64 2)]) (H' := [some ⟨[.int .i64 0, .int .i64 0, .int .i64 0, .int .i64 0, .int .i64 0, .str [], .str [], .str []], 0⟩, some ⟨[.int .i64 (w64 (v1.toNat : Int)), .int .i64 v2.1, .int .i64 v3.1, .int .i64 v4.1, .int .i64 v5.1, .str v6.1, .str v7.1, .str []], 0⟩, some ⟨[.ptr 1 1, .ptr 1 2, .ptr 1 3, .ptr 1 4], 1⟩, some ⟨[.ptr 1 5, .ptr 1 6, .ptr 1 7], 1⟩]) rfl rfl ?_
        refine RW.sreg (rl.run 2 rfl ?_)
        obtain ⟨v8, e8, h15⟩ := bindS h14
        refine rl.call rfl rfl rfl (CallW.val (r' := .tup [.str v8.1, .int .i64 v8.2.1, .bool v8.2.2]) ok_impl_ReadShort (law_impl_ReadShort e8) (.cons .str (.cons .int .nil)) (FlL.tup (.cons .refl (.cons .refl (.cons .refl .nil)))) ?_)
        refine rl.run 7 rfl (rl.done ?_)
        refine RW.keep [0, 2, 4, 12, 13, 14, 15, 51, 52, 53] (a' := [(0, .str x0), (2, .ptr 0 0), (4, .ptr 1 0), (12, .ptr 1 7), (13, .str v8.1), (14, .int .i64 v8.2.1), (15, .bool v8.2.2), (51, .sl 3 0 3), (52, .int .i64 3), (53, .int .i64 2)]) (H' := [some ⟨[.int .i64 0, .int .i64 0, .int .i64 0, .int .i64 0, .int .i64 0, .str [], .str [], .str []], 0⟩, some ⟨[.int .i64 (w64 (v1.toNat : Int)), .int .i64 v2.1, .int .i64 v3.1, .int .i64 v4.1, .int .i64 v5.1, .str v6.1, .str v7.1, .str []], 0⟩, some ⟨[.ptr 1 1, .ptr 1 2, .ptr 1 3, .ptr 1 4], 1⟩, some ⟨[.ptr 1 5, .ptr 1 6, .ptr 1 7], 1⟩]) rfl rfl ?_
        refine RW.seq (RW.sreg (rl.run 2 rfl (rl.done ?_)))
        cases hb : (!v8.2.2)
        ·have h16 := iteBF h15 hb
         refine RW.cond_f rfl (RW.skip (RW.sreg (rl.run 4 rfl (rl.done ?_))))
         refine RW.keep [0, 2, 4, 14, 51, 52, 53] (a' := [(0, .str x0), (2, .ptr 0 0), (4, .ptr 1 0), (14, .int .i64 v8.2.1), (51, .sl 3 0 3), (52, .int .i64 3), (53, .int .i64 2)]) (H' := [some ⟨[.int .i64 0, .int .i64 0, .int .i64 0, .int .i64 0, .int .i64 0, .str [], .str [], .str []], 0⟩, some ⟨[.int .i64 (w64 (v1.toNat : Int)), .int .i64 v2.1, .int .i64 v3.1, .int .i64 v4.1, .int .i64 v5.1, .str v6.1, .str v7.1, .str v8.1], 0⟩, some ⟨[.ptr 1 1, .ptr 1 2, .ptr 1 3, .ptr 1 4], 1⟩, some ⟨[.ptr 1 5, .ptr 1 6, .ptr 1 7], 1⟩]) rfl rfl ?_
         refine RW.reg (rl.run 2 rfl (rl.done (RW.reg (rl.run 2 rfl (rl.done ?_)))))
         refine RWIn.round ?_
         refine RW.sreg (rl.run 1 rfl (rl.done (RW.seq (RW.cond_f rfl (RW.exit (blkA_eq (RW.seq (RW.seq ?_))))))))
         obtain ⟨y9, ey9, h17⟩ := bindS h16
         refine RW.cutq (σ := Bool) (fun y9 => [(2, .ptr 0 0), (4, .ptr 1 0), (80, .bool y9)]) (fun y9 => [some ⟨[.int .i64 0, .int .i64 0, .int .i64 0, .int .i64 0, .int .i64 0, .str [], .str [], .str []], 0⟩, some ⟨[.int .i64 (w64 (v1.toNat : Int)), .int .i64 v2.1, .int .i64 v3.1, .int .i64 v4.1, .int .i64 v5.1, .str v6.1, .str v7.1, .str v8.1], 0⟩]) (fun y => y9 = y) (fun _ _ _ _ g h => RW.gh g h) ?_ ?_
         ·refine RW.reg ?_
          refine rl.run 3 rfl ?_
          refine rl.gen rfl rfl fun b hb => ?_
          cases b
          ·have h18 := iteBF ey9 hb
           refine rl.run 2 rfl ?_
           obtain ⟨v10, e10, h19⟩ := bindS h18
           refine rl.call rfl rfl rfl (CallW.val (r' := .bool v10) ok_impl_RecOk (law_impl_RecOk e10) (.cons (DFL.agg (.cons .int (.cons .int (.cons .int (.cons .int (.cons .int (.cons .str (.cons .str (.cons .str .nil))))))))) .nil) .refl ?_)
           cases hb : v10
           ·have h20 := iteBF h19 hb
            refine rl.run 2 rfl (rl.done ?_)
            cases h20
            exact ⟨_, rfl, (Gh.ren0 [0, 1] (.cells rfl rfl (.keep .int (.keep .int (.keep .int (.keep .int (.keep .int (.keep .str (.keep .str (.keep .str .nil)))))))) (.cells rfl rfl (.keep .int (.keep .int (.keep .int (.keep .int (.keep .int (.keep .str (.keep .str (.keep .str .nil)))))))) .nil)) rfl (.cons rfl (.ptr rfl) (.cons rfl (.ptr rfl) (.cons rfl (.dat .bool) .nil))))⟩
           ·have h21 := iteBT h19 hb
            refine rl.run 2 rfl (rl.done ?_)
            cases h21
            exact ⟨_, rfl, (Gh.ren0 [0, 1] (.cells rfl rfl (.keep .int (.keep .int (.keep .int (.keep .int (.keep .int (.keep .str (.keep .str (.keep .str .nil)))))))) (.cells rfl rfl (.keep .int (.keep .int (.keep .int (.keep .int (.keep .int (.keep .str (.keep .str (.keep .str .nil)))))))) .nil)) rfl (.cons rfl (.ptr rfl) (.cons rfl (.ptr rfl) (.cons rfl (.dat .bool) .nil))))⟩
          ·have h22 := iteBT ey9 hb
           refine rl.run 5 rfl (rl.done ?_)
           cases h22
           exact ⟨_, rfl, (Gh.ren0 [0, 1] (.cells rfl rfl (.keep .int (.keep .int (.keep .int (.keep .int (.keep .int (.keep .str (.keep .str (.keep .str .nil)))))))) (.cells rfl rfl (.keep .int (.keep .int (.keep .int (.keep .int (.keep .int (.keep .str (.keep .str (.keep .str .nil)))))))) .nil)) rfl (.cons rfl (.ptr rfl) (.cons rfl (.ptr rfl) (.cons rfl (.dat .bool) .nil))))⟩
         ·intro y hC
          subst hC
          cases hb : y9
          ·have h23 := iteBF h17 hb
           refine RW.cond_f rfl (RW.skip (RW.sreg (rl.run 3 rfl (rl.done (RW.ret ?_)))))
           cases h23
           exact RRet.mk rfl (OutT.tup (.cons (OutL.agg (.cons .int rfl (.cons .int rfl (.cons .int rfl (.cons .int rfl (.cons .int rfl (.cons .str rfl (.cons .str rfl (.cons .str rfl .nil))))))))) (.cons .bool .nil))) (by first | decide | simp)
          ·have h24 := iteBT h17 hb
           refine RW.cond_t rfl (RW.sreg (rl.run 3 rfl (rl.done (RW.ret ?_))))
           cases h24
           exact RRet.mk rfl (OutT.tup (.cons (OutL.agg (.cons .int rfl (.cons .int rfl (.cons .int rfl (.cons .int rfl (.cons .int rfl (.cons .str rfl (.cons .str rfl (.cons .str rfl .nil))))))))) (.cons .bool .nil))) (by first | decide | simp)
        ·have h25 := iteBT h15 hb
         refine RW.cond_t rfl (RW.sreg (rl.run 3 rfl (rl.done ?_)))
         refine RW.keep [2, 3] (a' := [(2, .ptr 0 0), (3, .bool false)]) (H' := [some ⟨[.int .i64 0, .int .i64 0, .int .i64 0, .int .i64 0, .int .i64 0, .str [], .str [], .str []], 0⟩, some ⟨[.int .i64 (w64 (v1.toNat : Int)), .int .i64 v2.1, .int .i64 v3.1, .int .i64 v4.1, .int .i64 v5.1, .str v6.1, .str v7.1, .str []], 0⟩, some ⟨[.ptr 1 1, .ptr 1 2, .ptr 1 3, .ptr 1 4], 1⟩, some ⟨[.ptr 1 5, .ptr 1 6, .ptr 1 7], 1⟩]) rfl rfl ?_
         refine RW.ret ?_
         cases h25
         exact RRet.mk rfl (OutT.tup (.cons (OutL.agg (.cons .int rfl (.cons .int rfl (.cons .int rfl (.cons .int rfl (.cons .int rfl (.cons .str rfl (.cons .str rfl (.cons .str rfl .nil))))))))) (.cons .bool .nil))) (by first | decide | simp)
       ·have h26 := iteBT h13 hb
        refine RW.cond_t rfl (RW.sreg (rl.run 3 rfl (rl.done ?_)))
        refine RW.keep [2, 3] (a' := [(2, .ptr 0 0), (3, .bool false)]) (H' := [some ⟨[.int .i64 0, .int .i64 0, .int .i64 0, .int .i64 0, .int .i64 0, .str [], .str [], .str []], 0⟩, some ⟨[.int .i64 (w64 (v1.toNat : Int)), .int .i64 v2.1, .int .i64 v3.1, .int .i64 v4.1, .int .i64 v5.1, .str v6.1, .str [], .str []], 0⟩, some ⟨[.ptr 1 1, .ptr 1 2, .ptr 1 3, .ptr 1 4], 1⟩, some ⟨[.ptr 1 5, .ptr 1 6, .ptr 1 7], 1⟩]) rfl rfl ?_
        refine RW.ret ?_
        cases h26
        exact RRet.mk rfl (OutT.tup (.cons (OutL.agg (.cons .int rfl (.cons .int rfl (.cons .int rfl (.cons .int rfl (.cons .int rfl (.cons .str rfl (.cons .str rfl (.cons .str rfl .nil))))))))) (.cons .bool .nil))) (by first | decide | simp)
      ·have h27 := iteBT h11 hb
       refine RW.cond_t rfl (RW.sreg (rl.run 3 rfl (rl.done ?_)))
       refine RW.keep [2, 3] (a' := [(2, .ptr 0 0), (3, .bool false)]) (H' := [some ⟨[.int .i64 0, .int .i64 0, .int .i64 0, .int .i64 0, .int .i64 0, .str [], .str [], .str []], 0⟩, some ⟨[.int .i64 (w64 (v1.toNat : Int)), .int .i64 v2.1, .int .i64 v3.1, .int .i64 v4.1, .int .i64 v5.1, .str [], .str [], .str []], 0⟩, some ⟨[.ptr 1 1, .ptr 1 2, .ptr 1 3, .ptr 1 4], 1⟩, some ⟨[.ptr 1 5, .ptr 1 6, .ptr 1 7], 1⟩]) rfl rfl ?_
       refine RW.ret ?_
       cases h27
       exact RRet.mk rfl (OutT.tup (.cons (OutL.agg (.cons .int rfl (.cons .int rfl (.cons .int rfl (.cons .int rfl (.cons .int rfl (.cons .str rfl (.cons .str rfl (.cons .str rfl .nil))))))))) (.cons .bool .nil))) (by first | decide | simp)
     ·have h28 := iteBT h9 hb
      refine RW.cond_t rfl (RW.sreg (rl.run 3 rfl (rl.done ?_)))
      refine RW.keep [2, 3] (a' := [(2, .ptr 0 0), (3, .bool false)]) (H' := [some ⟨[.int .i64 0, .int .i64 0, .int .i64 0, .int .i64 0, .int .i64 0, .str [], .str [], .str []], 0⟩, some ⟨[.int .i64 (w64 (v1.toNat : Int)), .int .i64 v2.1, .int .i64 v3.1, .int .i64 v4.1, .int .i64 0, .str [], .str [], .str []], 0⟩, some ⟨[.ptr 1 1, .ptr 1 2, .ptr 1 3, .ptr 1 4], 1⟩]) rfl rfl ?_
      refine RW.ret ?_
      cases h28
      exact RRet.mk rfl (OutT.tup (.cons (OutL.agg (.cons .int rfl (.cons .int rfl (.cons .int rfl (.cons .int rfl (.cons .int rfl (.cons .str rfl (.cons .str rfl (.cons .str rfl .nil))))))))) (.cons .bool .nil))) (by first | decide | simp)
    ·have h29 := iteBT h7 hb
     refine RW.cond_t rfl (RW.sreg (rl.run 3 rfl (rl.done ?_)))
     refine RW.keep [2, 3] (a' := [(2, .ptr 0 0), (3, .bool false)]) (H' := [some ⟨[.int .i64 0, .int .i64 0, .int .i64 0, .int .i64 0, .int .i64 0, .str [], .str [], .str []], 0⟩, some ⟨[.int .i64 (w64 (v1.toNat : Int)), .int .i64 v2.1, .int .i64 v3.1, .int .i64 0, .int .i64 0, .str [], .str [], .str []], 0⟩, some ⟨[.ptr 1 1, .ptr 1 2, .ptr 1 3, .ptr 1 4], 1⟩]) rfl rfl ?_
     refine RW.ret ?_
     cases h29
     exact RRet.mk rfl (OutT.tup (.cons (OutL.agg (.cons .int rfl (.cons .int rfl (.cons .int rfl (.cons .int rfl (.cons .int rfl (.cons .str rfl (.cons .str rfl (.cons .str rfl .nil))))))))) (.cons .bool .nil))) (by first | decide | simp)
   ·have h30 := iteBT h5 hb
    refine RW.cond_t rfl (RW.sreg (rl.run 3 rfl (rl.done ?_)))
    refine RW.keep [2, 3] (a' := [(2, .ptr 0 0), (3, .bool false)]) (H' := [some ⟨[.int .i64 0, .int .i64 0, .int .i64 0, .int .i64 0, .int .i64 0, .str [], .str [], .str []], 0⟩, some ⟨[.int .i64 (w64 (v1.toNat : Int)), .int .i64 v2.1, .int .i64 0, .int .i64 0, .int .i64 0, .str [], .str [], .str []], 0⟩, some ⟨[.ptr 1 1, .ptr 1 2, .ptr 1 3, .ptr 1 4], 1⟩]) rfl rfl ?_
    refine RW.ret ?_
    cases h30
    exact RRet.mk rfl (OutT.tup (.cons (OutL.agg (.cons .int rfl (.cons .int rfl (.cons .int rfl (.cons .int rfl (.cons .int rfl (.cons .str rfl (.cons .str rfl (.cons .str rfl .nil))))))))) (.cons .bool .nil))) (by first | decide | simp)
  ·have h31 := iteBT h3 hb
   refine RW.cond_t rfl (RW.sreg (rl.run 3 rfl (rl.done ?_)))
   refine RW.keep [2, 3] (a' := [(2, .ptr 0 0), (3, .bool false)]) (H' := [some ⟨[.int .i64 0, .int .i64 0, .int .i64 0, .int .i64 0, .int .i64 0, .str [], .str [], .str []], 0⟩, some ⟨[.int .i64 (w64 (v1.toNat : Int)), .int .i64 0, .int .i64 0, .int .i64 0, .int .i64 0, .str [], .str [], .str []], 0⟩, some ⟨[.ptr 1 1, .ptr 1 2, .ptr 1 3, .ptr 1 4], 1⟩]) rfl rfl ?_
   refine RW.ret ?_
   cases h31
   exact RRet.mk rfl (OutT.tup (.cons (OutL.agg (.cons .int rfl (.cons .int rfl (.cons .int rfl (.cons .int rfl (.cons .int rfl (.cons .str rfl (.cons .str rfl (.cons .str rfl .nil))))))))) (.cons .bool .nil))) (by first | decide | simp)
 ·have h32 := iteBT hF hb
  refine rl.done (RW.cond_t rfl (RW.sreg (rl.run 3 rfl (rl.done (RW.ret ?_)))))
  cases h32
  exact RRet.mk rfl (OutT.tup (.cons (OutL.agg (.cons .int rfl (.cons .int rfl (.cons .int rfl (.cons .int rfl (.cons .int rfl (.cons .str rfl (.cons .str rfl (.cons .str rfl .nil))))))))) (.cons .bool .nil))) (by first | decide | simp)
theorem law_impl_FrameItem {x0 : TFrame} {r : TItem × Bool} (hF : F_impl_FrameItem x0 = some r) : PCalls Try.prog 111 [.agg (enc_TFrame false x0)] (.tup [.agg (enc_TItem true r.1), .bool r.2]) := by
 refine PCalls.of_r k_impl_FrameItem rfl ?_
 unfold F_impl_FrameItem at hF
 refine RW.sreg (rl.run 3 rfl (rl.done (RW.sreg (rl.run 2 rfl ?_))))
 obtain ⟨v1, e1, h1⟩ := bindS hF
 refine rl.call rfl rfl rfl (CallW.val (r' := .tup [.agg (enc_TRec false v1.1), .bool v1.2]) ok_impl_ReadRec (law_impl_ReadRec e1) (.cons .str .nil) (FlL.tup (.cons .refl (.cons .refl .nil))) ?_)
 refine rl.run 6 rfl (rl.done (RW.seq (RW.seq ?_)))
 obtain ⟨y2, ey2, h2⟩ := bindS h1
 refine RW.cutq (σ := Bool) (fun y2 => [(1, .ptr 0 0), (2, .ptr 1 0), (4, .ptr 2 0), (18, .bool y2)]) (fun y2 => [some ⟨[.int .i64 x0.Gen, .int .i64 x0.Seq, .str x0.Body], 0⟩, some ⟨[.int .i64 0, .int .i64 0, .int .i64 0, .int .i64 0, .int .i64 0, .int .i64 0, .str [], .str [], .str []], 0⟩, some ⟨[.int .i64 v1.1.Kind, .int .i64 v1.1.Valid, .int .i64 v1.1.Uid, .int .i64 v1.1.Next, .int .i64 v1.1.Flags, .str v1.1.User, .str v1.1.Name, .str v1.1.Text], 0⟩]) (fun y => y2 = y) (fun _ _ _ _ g h => RW.gh g h) ?_ ?_
 ·refine RW.reg ?_
  refine rl.run 3 rfl ?_
  cases hb : (!v1.2)
  ·have h3 := iteBF ey2 hb
   refine rl.run 1 rfl ?_
   obtain ⟨v3, e3, h4⟩ := bindS h3
   refine rl.call rfl rfl rfl (CallW.val (r' := .bool v3) ok_impl_FrameOk (law_impl_FrameOk e3) (.cons (DFL.agg (.cons .int (.cons .int (.cons .str .nil)))) .nil) .refl ?_)
   cases hb : v3
   ·have h5 := iteBF h4 hb
    refine rl.run 2 rfl (rl.done ?_)
    cases h5
    exact ⟨_, rfl, (Gh.ren0 [0, 1, 2] (.cells rfl rfl (.keep .int (.keep .int (.keep .str .nil))) (.cells rfl rfl (.keep .int (.keep .int (.keep .int (.keep .int (.keep .int (.keep .int (.keep .str (.keep .str (.keep .str .nil))))))))) (.cells rfl rfl (.keep .int (.keep .int (.keep .int (.keep .int (.keep .int (.keep .str (.keep .str (.keep .str .nil)))))))) .nil))) rfl (.cons rfl (.ptr rfl) (.cons rfl (.ptr rfl) (.cons rfl (.ptr rfl) (.cons rfl (.dat .bool) .nil)))))⟩
   ·have h6 := iteBT h4 hb
    refine rl.run 2 rfl (rl.done ?_)
    cases h6
    exact ⟨_, rfl, (Gh.ren0 [0, 1, 2] (.cells rfl rfl (.keep .int (.keep .int (.keep .str .nil))) (.cells rfl rfl (.keep .int (.keep .int (.keep .int (.keep .int (.keep .int (.keep .int (.keep .str (.keep .str (.keep .str .nil))))))))) (.cells rfl rfl (.keep .int (.keep .int (.keep .int (.keep .int (.keep .int (.keep .str (.keep .str (.keep .str .nil)))))))) .nil))) rfl (.cons rfl (.ptr rfl) (.cons rfl (.ptr rfl) (.cons rfl (.ptr rfl) (.cons rfl (.dat .bool) .nil)))))⟩
  ·have h7 := iteBT ey2 hb
   refine rl.run 4 rfl (rl.done ?_)
   cases h7
   exact ⟨_, rfl, (Gh.ren0 [0, 1, 2] (.cells rfl rfl (.keep .int (.keep .int (.keep .str .nil))) (.cells rfl rfl (.keep .int (.keep .int (.keep .int (.keep .int (.keep .int (.keep .int (.keep .str (.keep .str (.keep .str .nil))))))))) (.cells rfl rfl (.keep .int (.keep .int (.keep .int (.keep .int (.keep .int (.keep .str (.keep .str (.keep .str .nil)))))))) .nil))) rfl (.cons rfl (.ptr rfl) (.cons rfl (.ptr rfl) (.cons rfl (.ptr rfl) (.cons rfl (.dat .bool) .nil)))))⟩
 ·intro y hC
  subst hC
  cases hb : y2
  ·have h8 := iteBF h2 hb
   refine RW.cond_f rfl (RW.skip (RW.sreg (rl.run 6 rfl (rl.done (RW.ret ?_)))))
   cases h8
   exact RRet.mk rfl (OutT.tup (.cons (OutL.agg (.cons .int rfl (.cons .int rfl (.cons .int rfl (.cons .int rfl (.cons .int rfl (.cons .int rfl (.cons .str rfl (.cons .str rfl (.cons .str rfl .nil)))))))))) (.cons .bool .nil))) (by first | decide | simp)
  ·have h9 := iteBT h2 hb
   refine RW.cond_t rfl (RW.sreg (rl.run 3 rfl (rl.done (RW.ret ?_))))
   cases h9
   exact RRet.mk rfl (OutT.tup (.cons (OutL.agg (.cons .int rfl (.cons .int rfl (.cons .int rfl (.cons .int rfl (.cons .int rfl (.cons .int rfl (.cons .str rfl (.cons .str rfl (.cons .str rfl .nil)))))))))) (.cons .bool .nil))) (by first | decide | simp)
theorem law_impl_SegOf {x0 : TDisk} {x1 : Int} {r : TSeg} (hF : F_impl_SegOf x0 x1 = some r) : PCalls Try.prog 52 [.agg (enc_TDisk false x0), .int .i64 x1] (.agg (enc_TSeg true r)) := by
 refine PCalls.of_r k_impl_SegOf rfl ?_
 unfold F_impl_SegOf at hF
 refine RW.sreg (rl.run 2 rfl (rl.done (RW.sreg (rl.run 2 rfl ?_))))
 obtain ⟨v1, e1, h1⟩ := bindS hF
 refine rl.call rfl rfl rfl (CallW.val (r' := .tup [.lst false 3 (fl (enc_TFrame false) v1.1) v1.1.length, .int .i64 v1.2]) ok_impl_SegFrames (law_impl_SegFrames e1) (.cons (DFL.agg (.cons (.lst ekS) (.cons (.lst ek_TWrite) .nil))) (.cons .int .nil)) (FlL.tup (.cons .refl (.cons .refl .nil))) ?_)
 refine rl.run 5 rfl (rl.done (RW.sreg (rl.run 3 rfl ?_)))
 obtain ⟨v2, e2, h2⟩ := bindS h1
 refine rl.call rfl rfl rfl (CallW.val (r' := .int .i64 v2) ok_impl_SegGen (law_impl_SegGen e2) (.cons (DFL.agg (.cons (.lst ekS) (.cons (.lst ek_TWrite) .nil))) (.cons .int .nil)) .refl ?_)
 refine rl.run 4 rfl (rl.done ?_)
 refine RW.keep [4, 5, 7] (a' := [(4, .ptr 1 0), (5, .lst false 3 (fl (enc_TFrame false) v1.1) v1.1.length), (7, .ptr 2 0)]) (H' := [some ⟨[.lst false 1 (fl (encS false) x0.Sectors) x0.Sectors.length, .lst false 2 (fl (enc_TWrite false) x0.Cache) x0.Cache.length], 0⟩, some ⟨[.int .i64 0, .int .i64 0, .int .i64 0, .nils], 0⟩, some ⟨[.int .i64 x1, .int .i64 v2, .int .i64 v1.2, .nils], 0⟩]) rfl rfl ?_
 refine RW.seq (RW.sreg (rl.run 3 rfl (rl.done ?_)))
 refine RW.gh (Gh.nil_c 2 3 9 rfl rfl) ?_
 obtain ⟨y8, ey8, h4⟩ := bindS h2
 refine RW.cutq (σ := (List TItem)) (fun y4 => [(4, .ptr 0 0), (7, .ptr 1 0)]) (fun y4 => [some ⟨[.int .i64 0, .int .i64 0, .int .i64 0, .nils], 0⟩, some ⟨[.int .i64 x1, .int .i64 v2, .int .i64 v1.2, .sl 2 0 y4.length], 0⟩, some ⟨fl (enc_TItem true) y4, 9⟩]) (fun y => y8 = y) (fun _ _ _ _ g h => RW.gh g h) ?_ ?_
 ·refine RW.blk ?_
  refine RW.iter (σ := Int × (List TItem)) ey8 (fun s3 => [(4, .ptr 0 0), (7, .ptr 1 0), (24, .lst false 3 (fl (enc_TFrame false) v1.1) v1.1.length), (25, .int .i64 (v1.1.length : Int)), (26, .int .i64 s3.1)]) (fun s3 => [some ⟨[.int .i64 0, .int .i64 0, .int .i64 0, .nils], 0⟩, some ⟨[.int .i64 x1, .int .i64 v2, .int .i64 v1.2, .sl 2 0 s3.2.length], 0⟩, some ⟨fl (enc_TItem true) s3.2, 9⟩]) (Gh.ren0 [1, 2, 3] (.cells rfl rfl (.keep .int (.keep .int (.keep .int (.keep .nils .nil)))) (.cells rfl rfl (.keep .int (.keep .int (.keep .int (.slq rfl rfl .nil)))) (.same rfl (ek_TItem.fref _ _) .nil))) rfl (.cons rfl (.ptr rfl) (.cons rfl (.ptr rfl) (.cons rfl (.dat (ek_TFrame.rlst)) (.cons rfl (.dat .int) (.cons rfl (.dat .int) .nil)))))) (fun s3 B o hS3 hB3 hE3 => ?_)
  unfold S_impl_SegOf_1 at hS3
  refine RW.sreg ?_
  refine rl.gen rfl rfl fun b hb => ?_
  cases b
  ·have h5 := iteBF hS3 hb
   refine rl.done (RW.seq (RW.cond_f rfl (RW.exit (blkA_eq ?_))))
   cases h5
   exact ⟨_, (hE3 _ rfl).symm, (Gh.ren0 [0, 1, 2] (.cells rfl rfl (.keep .int (.keep .int (.keep .int (.keep .nils .nil)))) (.cells rfl rfl (.keep .int (.keep .int (.keep .int (.slq rfl rfl .nil)))) (.same rfl (ek_TItem.fref _ _) .nil))) rfl (.cons rfl (.ptr rfl) (.cons rfl (.ptr rfl) .nil)))⟩
  ·have h6 := iteBT hS3 hb
   refine rl.done (RW.seq (RW.cond_t rfl (RW.skip (RW.seq (RW.blk (RW.sreg ?_))))))
   obtain ⟨v5, e5, h7⟩ := bindS h6
   refine rl.op (x_ia_lst (enc := enc_TFrame) (o := false) rfl rfl rfl e5) ?_
   refine rl.op (x_ld_ela (off' := 0) (vs := (enc_TFrame false v5)) ek_TFrame rfl e5 rfl rfl rfl) ?_
   refine rl.run 2 rfl (rl.done (RW.sreg (rl.run 1 rfl ?_)))
   obtain ⟨v6, e6, h8⟩ := bindS h7
   refine rl.call rfl rfl rfl (CallW.val (r' := .tup [.agg (enc_TItem false v6.1), .bool v6.2]) ok_impl_FrameItem (law_impl_FrameItem e6) (.cons (DFL.agg (.cons .int (.cons .int (.cons .str .nil)))) .nil) (FlL.tup (.cons .refl (.cons .refl .nil))) ?_)
   refine rl.run 6 rfl (rl.done (RW.sreg (rl.run 1 rfl (rl.done ?_))))
   cases hb : v6.2
   ·have h9 := iteBF h8 hb
    refine RW.cond_f rfl (RW.skip (RW.reg (rl.run 2 rfl (rl.done ?_))))
    cases h9
    exact hB3 _ rfl _ _ (Gh.ren0 [0, 1, 2] (.cells rfl rfl (.keep .int (.keep .int (.keep .int (.keep .nils .nil)))) (.cells rfl rfl (.keep .int (.keep .int (.keep .int (.slq rfl rfl .nil)))) (.same rfl (ek_TItem.fref _ _) .nil))) rfl (.cons rfl (.ptr rfl) (.cons rfl (.ptr rfl) (.cons rfl (.dat (ek_TFrame.rlst)) (.cons rfl (.dat .int) (.cons rfl (.dat .int) .nil))))))
   ·have h10 := iteBT h8 hb
    refine RW.cond_t rfl (RW.reg (rl.run 4 rfl ?_))
    obtain ⟨v7, e7, h11⟩ := bindS h10
    refine rl.op (x_app rfl rfl (rapp_sl (l := s3.2) (m := [v6.1]) (o := true) ek_TItem rfl rfl (acont_slq (m := [v6.1]) (o := true) fk_TItem rfl rfl) rfl (fk_TItem.fst _ _) e7)) ?_
    refine rl.run 2 rfl (rl.done (RW.reg (rl.run 2 rfl (rl.done ?_))))
    cases h11
    exact hB3 _ rfl _ _ (Gh.ren0 [0, 1, 6] (.cells rfl rfl (.keep .int (.keep .int (.keep .int (.keep .nils .nil)))) (.cells rfl rfl (.keep .int (.keep .int (.keep .int (.slq rfl rfl .nil)))) (.same rfl (ek_TItem.fref _ _) .nil))) rfl (.cons rfl (.ptr rfl) (.cons rfl (.ptr rfl) (.cons rfl (.dat (ek_TFrame.rlst)) (.cons rfl (.dat .int) (.cons rfl (.dat .int) .nil))))))
 ·intro y4 hC
  subst hC
  refine RW.sreg (rl.run 2 rfl (rl.done (RW.ret ?_)))
  cases h4
  exact RRet.mk rfl (OutL.agg (.cons .int rfl (.cons .int rfl (.cons .int rfl (.cons (OutR.ownq ek_TItem rfl rfl) rfl .nil))))) (by first | decide | simp)
theorem law_laws_eqRec {x0 : TRec} {x1 : TRec} {r : Bool} (hF : F_laws_eqRec x0 x1 = some r) : PCalls Try.prog 143 [.agg (enc_TRec false x0), .agg (enc_TRec false x1)] (.bool r) := by
 refine PCalls.of_r k_laws_eqRec rfl ?_
 unfold F_laws_eqRec at hF
 refine RW.sreg (rl.run 3 rfl (rl.done (RW.seq (RW.sreg (rl.run 4 rfl ?_)))))
 refine rl.gen rfl rfl fun b hb => ?_
 cases b
 ·have h1 := iteBF hF hb
  refine rl.done (RW.cond_f rfl (RW.skip (RW.seq (RW.sreg (rl.run 4 rfl ?_)))))
  refine rl.gen rfl rfl fun b hb => ?_
  cases b
  ·have h2 := iteBF h1 hb
   refine rl.done ?_
   refine RW.keep [2, 3, 14] (a' := [(2, .ptr 0 0), (3, .ptr 1 0), (14, .bool false)]) (H' := [some ⟨[.int .i64 x0.Kind, .int .i64 x0.Valid, .int .i64 x0.Uid, .int .i64 x0.Next, .int .i64 x0.Flags, .str x0.User, .str x0.Name, .str x0.Text], 0⟩, some ⟨[.int .i64 x1.Kind, .int .i64 x1.Valid, .int .i64 x1.Uid, .int .i64 x1.Next, .int .i64 x1.Flags, .str x1.User, .str x1.Name, .str x1.Text], 0⟩]) rfl rfl ?_
   refine RW.cond_f rfl (RW.skip (RW.seq (RW.sreg (rl.run 4 rfl ?_))))
   refine rl.gen rfl rfl fun b hb => ?_
   cases b
   ·have h3 := iteBF h2 hb
    refine rl.done (RW.cond_f rfl (RW.skip (RW.seq (RW.sreg (rl.run 4 rfl ?_)))))
    refine rl.gen rfl rfl fun b hb => ?_
    cases b
    ·have h4 := iteBF h3 hb
     refine rl.done (RW.cond_f rfl (RW.skip (RW.seq (RW.sreg (rl.run 4 rfl ?_)))))
     refine rl.gen rfl rfl fun b hb => ?_
     cases b
     ·have h5 := iteBF h4 hb
      refine rl.done ?_
      refine RW.keep [2, 3, 29] (a' := [(2, .ptr 0 0), (3, .ptr 1 0), (29, .bool false)]) (H' := [some ⟨[.int .i64 x0.Kind, .int .i64 x0.Valid, .int .i64 x0.Uid, .int .i64 x0.Next, .int .i64 x0.Flags, .str x0.User, .str x0.Name, .str x0.Text], 0⟩, some ⟨[.int .i64 x1.Kind, .int .i64 x1.Valid, .int .i64 x1.Uid, .int .i64 x1.Next, .int .i64 x1.Flags, .str x1.User, .str x1.Name, .str x1.Text], 0⟩]) rfl rfl ?_
      refine RW.cond_f rfl (RW.skip (RW.seq (RW.sreg (rl.run 4 rfl ?_))))
      refine rl.gen rfl rfl fun b hb => ?_
      cases b
      ·have h6 := iteBF h5 hb
       refine rl.done (RW.cond_f rfl (RW.skip (RW.seq (RW.sreg (rl.run 4 rfl ?_)))))
       refine rl.gen rfl rfl fun b hb => ?_
       cases b
       ·have h7 := iteBF h6 hb
        refine rl.done (RW.cond_f rfl (RW.skip (RW.seq (RW.sreg (rl.run 4 rfl ?_)))))
        refine rl.gen rfl rfl fun b hb => ?_
        cases b
        ·have h8 := iteBF h7 hb
         refine rl.done ?_
         refine RW.keep [44] (a' := [(44, .bool false)]) (H' := [some ⟨[.int .i64 x0.Kind, .int .i64 x0.Valid, .int .i64 x0.Uid, .int .i64 x0.Next, .int .i64 x0.Flags, .str x0.User, .str x0.Name, .str x0.Text], 0⟩, some ⟨[.int .i64 x1.Kind, .int .i64 x1.Valid, .int .i64 x1.Uid, .int .i64 x1.Next, .int .i64 x1.Flags, .str x1.User, .str x1.Name, .str x1.Text], 0⟩]) rfl rfl ?_
         refine RW.cond_f rfl (RW.skip (RW.sreg (rl.run 1 rfl (rl.done (RW.ret ?_)))))
         cases h8
         exact RRet.mk rfl .bool (by first | decide | simp)
        ·have h9 := iteBT h7 hb
         refine rl.done ?_
         refine RW.keep [44] (a' := [(44, .bool true)]) (H' := [some ⟨[.int .i64 x0.Kind, .int .i64 x0.Valid, .int .i64 x0.Uid, .int .i64 x0.Next, .int .i64 x0.Flags, .str x0.User, .str x0.Name, .str x0.Text], 0⟩, some ⟨[.int .i64 x1.Kind, .int .i64 x1.Valid, .int .i64 x1.Uid, .int .i64 x1.Next, .int .i64 x1.Flags, .str x1.User, .str x1.Name, .str x1.Text], 0⟩]) rfl rfl ?_
         refine RW.cond_t rfl (RW.sreg (rl.run 1 rfl (rl.done (RW.ret ?_))))
         cases h9
         exact RRet.mk rfl .bool (by first | decide | simp)
       ·have h10 := iteBT h6 hb
        refine rl.done (RW.cond_t rfl (RW.sreg (rl.run 1 rfl (rl.done ?_))))
        refine RW.keep [4] (a' := [(4, .bool false)]) (H' := [some ⟨[.int .i64 x0.Kind, .int .i64 x0.Valid, .int .i64 x0.Uid, .int .i64 x0.Next, .int .i64 x0.Flags, .str x0.User, .str x0.Name, .str x0.Text], 0⟩, some ⟨[.int .i64 x1.Kind, .int .i64 x1.Valid, .int .i64 x1.Uid, .int .i64 x1.Next, .int .i64 x1.Flags, .str x1.User, .str x1.Name, .str x1.Text], 0⟩]) rfl rfl ?_
        refine RW.ret ?_
        cases h10
        exact RRet.mk rfl .bool (by first | decide | simp)
      ·have h11 := iteBT h5 hb
       refine rl.done (RW.cond_t rfl (RW.sreg (rl.run 1 rfl (rl.done (RW.ret ?_)))))
       cases h11
       exact RRet.mk rfl .bool (by first | decide | simp)
     ·have h12 := iteBT h4 hb
      refine rl.done ?_
      refine RW.keep [2, 3, 29] (a' := [(2, .ptr 0 0), (3, .ptr 1 0), (29, .bool true)]) (H' := [some ⟨[.int .i64 x0.Kind, .int .i64 x0.Valid, .int .i64 x0.Uid, .int .i64 x0.Next, .int .i64 x0.Flags, .str x0.User, .str x0.Name, .str x0.Text], 0⟩, some ⟨[.int .i64 x1.Kind, .int .i64 x1.Valid, .int .i64 x1.Uid, .int .i64 x1.Next, .int .i64 x1.Flags, .str x1.User, .str x1.Name, .str x1.Text], 0⟩]) rfl rfl ?_
      refine RW.cond_t rfl (RW.sreg (rl.run 1 rfl (rl.done (RW.ret ?_))))
      cases h12
      exact RRet.mk rfl .bool (by first | decide | simp)
    ·have h13 := iteBT h3 hb
     refine rl.done (RW.cond_t rfl (RW.sreg (rl.run 1 rfl (rl.done ?_))))
     refine RW.keep [4] (a' := [(4, .bool false)]) (H' := [some ⟨[.int .i64 x0.Kind, .int .i64 x0.Valid, .int .i64 x0.Uid, .int .i64 x0.Next, .int .i64 x0.Flags, .str x0.User, .str x0.Name, .str x0.Text], 0⟩, some ⟨[.int .i64 x1.Kind, .int .i64 x1.Valid, .int .i64 x1.Uid, .int .i64 x1.Next, .int .i64 x1.Flags, .str x1.User, .str x1.Name, .str x1.Text], 0⟩]) rfl rfl ?_
     refine RW.ret ?_
     cases h13
     exact RRet.mk rfl .bool (by first | decide | simp)
   ·have h14 := iteBT h2 hb
    refine rl.done (RW.cond_t rfl (RW.sreg (rl.run 1 rfl (rl.done (RW.ret ?_)))))
    cases h14
    exact RRet.mk rfl .bool (by first | decide | simp)
  ·have h15 := iteBT h1 hb
   refine rl.done ?_
   refine RW.keep [2, 3, 14] (a' := [(2, .ptr 0 0), (3, .ptr 1 0), (14, .bool true)]) (H' := [some ⟨[.int .i64 x0.Kind, .int .i64 x0.Valid, .int .i64 x0.Uid, .int .i64 x0.Next, .int .i64 x0.Flags, .str x0.User, .str x0.Name, .str x0.Text], 0⟩, some ⟨[.int .i64 x1.Kind, .int .i64 x1.Valid, .int .i64 x1.Uid, .int .i64 x1.Next, .int .i64 x1.Flags, .str x1.User, .str x1.Name, .str x1.Text], 0⟩]) rfl rfl ?_
   refine RW.cond_t rfl (RW.sreg (rl.run 1 rfl (rl.done (RW.ret ?_))))
   cases h15
   exact RRet.mk rfl .bool (by first | decide | simp)
 ·have h16 := iteBT hF hb
  refine rl.done (RW.cond_t rfl (RW.sreg (rl.run 1 rfl (rl.done (RW.ret ?_)))))
  cases h16
  exact RRet.mk rfl .bool (by first | decide | simp)
theorem law_laws_eqItem {x0 : TItem} {x1 : TItem} {r : Bool} (hF : F_laws_eqItem x0 x1 = some r) : PCalls Try.prog 73 [.agg (enc_TItem false x0), .agg (enc_TItem false x1)] (.bool r) := by
 refine PCalls.of_r k_laws_eqItem rfl ?_
 unfold F_laws_eqItem at hF
 refine RW.sreg (rl.run 3 rfl (rl.done (RW.seq (RW.sreg (rl.run 4 rfl ?_)))))
 refine rl.gen rfl rfl fun b hb => ?_
 cases b
 ·have h1 := iteBF hF hb
  refine rl.done (RW.cond_f rfl (RW.skip (RW.seq (RW.sreg (rl.run 4 rfl ?_)))))
  obtain ⟨v1, e1, h2⟩ := bindS h1
  refine rl.call rfl rfl rfl (CallW.val (r' := .bool v1) ok_laws_eqRec (law_laws_eqRec e1) (.cons (DFL.agg (.cons .int (.cons .int (.cons .int (.cons .int (.cons .int (.cons .str (.cons .str (.cons .str .nil))))))))) (.cons (DFL.agg (.cons .int (.cons .int (.cons .int (.cons .int (.cons .int (.cons .str (.cons .str (.cons .str .nil))))))))) .nil)) .refl ?_)
  cases hb : v1
  ·have h3 := iteBF h2 hb
   refine rl.run 1 rfl (rl.done ?_)
   refine RW.keep [15] (a' := [(15, .bool true)]) (H' := [some ⟨[.int .i64 x0.Seq, .int .i64 x0.Rec.Kind, .int .i64 x0.Rec.Valid, .int .i64 x0.Rec.Uid, .int .i64 x0.Rec.Next, .int .i64 x0.Rec.Flags, .str x0.Rec.User, .str x0.Rec.Name, .str x0.Rec.Text], 0⟩, some ⟨[.int .i64 x1.Seq, .int .i64 x1.Rec.Kind, .int .i64 x1.Rec.Valid, .int .i64 x1.Rec.Uid, .int .i64 x1.Rec.Next, .int .i64 x1.Rec.Flags, .str x1.Rec.User, .str x1.Rec.Name, .str x1.Rec.Text], 0⟩]) rfl rfl ?_
   refine RW.cond_t rfl (RW.sreg (rl.run 1 rfl (rl.done (RW.ret ?_))))
   cases h3
   exact RRet.mk rfl .bool (by first | decide | simp)
  ·have h4 := iteBT h2 hb
   refine rl.run 1 rfl (rl.done ?_)
   refine RW.keep [15] (a' := [(15, .bool false)]) (H' := [some ⟨[.int .i64 x0.Seq, .int .i64 x0.Rec.Kind, .int .i64 x0.Rec.Valid, .int .i64 x0.Rec.Uid, .int .i64 x0.Rec.Next, .int .i64 x0.Rec.Flags, .str x0.Rec.User, .str x0.Rec.Name, .str x0.Rec.Text], 0⟩, some ⟨[.int .i64 x1.Seq, .int .i64 x1.Rec.Kind, .int .i64 x1.Rec.Valid, .int .i64 x1.Rec.Uid, .int .i64 x1.Rec.Next, .int .i64 x1.Rec.Flags, .str x1.Rec.User, .str x1.Rec.Name, .str x1.Rec.Text], 0⟩]) rfl rfl ?_
   refine RW.cond_f rfl (RW.skip (RW.sreg (rl.run 1 rfl (rl.done (RW.ret ?_)))))
   cases h4
   exact RRet.mk rfl .bool (by first | decide | simp)
 ·have h5 := iteBT hF hb
  refine rl.done (RW.cond_t rfl (RW.sreg (rl.run 1 rfl (rl.done (RW.ret ?_)))))
  cases h5
  exact RRet.mk rfl .bool (by first | decide | simp)
theorem law_laws_eqItemS {x0 : List TItem} {x1 : List TItem} {r : Bool} (hF : F_laws_eqItemS x0 x1 = some r) : PCalls Try.prog 22 [.lst false 9 (fl (enc_TItem false) x0) x0.length, .lst false 9 (fl (enc_TItem false) x1) x1.length] (.bool r) := by
 refine PCalls.of_r k_laws_eqItemS rfl ?_
 unfold F_laws_eqItemS at hF
 refine RW.sreg (rl.run 1 rfl (rl.done (RW.seq (RW.sreg (rl.run 4 rfl ?_)))))
 refine rl.gen rfl rfl fun b hb => ?_
 cases b
 ·have h1 := iteBF hF hb
  refine rl.done (RW.cond_f rfl (RW.skip (RW.seq (RW.sreg (rl.run 1 rfl (rl.done ?_))))))
  obtain ⟨y6, ey6, h3⟩ := bindS h1
  refine RW.cutq (σ := Unit) (fun y2 => []) (fun y2 => []) (fun y => y6 = .inr y) (fun _ _ _ _ g h => RW.gh g h) ?_ ?_
  ·refine RW.blk ?_
   refine RW.iter (σ := Int) ey6 (fun s1 => [(0, .lst false 9 (fl (enc_TItem false) x0) x0.length), (1, .lst false 9 (fl (enc_TItem false) x1) x1.length), (5, .int .i64 s1)]) (fun s1 => []) (Gh.ren0 [] .nil rfl (.cons rfl (.dat (ek_TItem.rlst)) (.cons rfl (.dat (ek_TItem.rlst)) (.cons rfl (.dat .int) .nil)))) (fun s1 B o hS2 hB2 hE2 => ?_)
   unfold S_laws_eqItemS_1 at hS2
   refine RW.seq (RW.sreg (rl.run 3 rfl ?_))
   refine rl.gen rfl rfl fun b hb => ?_
   cases b
   ·have h4 := iteBF hS2 hb
    refine rl.done (RW.cond_f rfl (RW.exit (blkA_eq ?_)))
    cases h4
    exact ⟨_, (hE2 _ rfl).symm, (Gh.ren0 [] .nil rfl .nil)⟩
   ·have h5 := iteBT hS2 hb
    refine rl.done (RW.cond_t rfl (RW.skip (RW.seq (RW.blk (RW.sdrw (rdraw.op rfl rfl (rdraw.op rfl rfl ?_)))))))
    obtain ⟨v3, e3, h6⟩ := bindS h5
    refine rdraw.op rfl (x_ia_lst (enc := enc_TItem) (o := false) rfl rfl rfl e3) ?_
    refine rdraw.op rfl (x_ld_ela (off' := 0) (vs := (enc_TItem false v3)) ek_TItem rfl e3 rfl rfl rfl) ?_
    refine rdraw.op rfl rfl (rdraw.op rfl rfl ?_)
    obtain ⟨v4, e4, h7⟩ := bindS h6
    refine rdraw.op rfl (x_ia_lst (enc := enc_TItem) (o := false) rfl rfl rfl e4) ?_
    refine rdraw.op rfl (x_ld_ela (off' := 0) (vs := (enc_TItem false v4)) ek_TItem rfl e4 rfl rfl rfl) ?_
    obtain ⟨v5, e5, h8⟩ := bindS h7
    refine rdraw.call rfl rfl rfl (CallW.val (r' := .bool v5) ok_laws_eqItem (law_laws_eqItem e5) (.cons (.dat (.agg (ek_TItem.dat false _))) (.cons (.dat (.agg (ek_TItem.dat false _))) .nil)) .refl ⟨rfl, ?_⟩)
    cases hb : v5
    ·have h9 := iteBF h8 hb
     refine rdraw.op rfl rfl (rdraw.done ?_)
     refine RW.keep [0, 1, 5, 26] (a' := [(0, .lst false 9 (fl (enc_TItem false) x0) x0.length), (1, .lst false 9 (fl (enc_TItem false) x1) x1.length), (5, .int .i64 s1), (26, .bool true)]) (H' := []) rfl rfl ?_
     refine RW.cond_t rfl (RW.sreg (rl.run 1 rfl (rl.done (RW.ret ?_))))
     cases h9
     have h10 := elimL h3 (hE2 _ rfl)
     cases h10
     exact RRet.mk rfl .bool (by first | decide | simp)
    ·have h11 := iteBT h8 hb
     refine rdraw.op rfl rfl (rdraw.done ?_)
     refine RW.keep [0, 1, 5, 26] (a' := [(0, .lst false 9 (fl (enc_TItem false) x0) x0.length), (1, .lst false 9 (fl (enc_TItem false) x1) x1.length), (5, .int .i64 s1), (26, .bool false)]) (H' := []) rfl rfl ?_
     refine RW.cond_f rfl (RW.skip (RW.reg (rl.run 3 rfl (rl.done ?_))))
     cases h11
     exact hB2 _ rfl _ _ (Gh.ren0 [] .nil rfl (.cons rfl (.dat (ek_TItem.rlst)) (.cons rfl (.dat (ek_TItem.rlst)) (.cons rfl (.dat .int) .nil))))
  ·intro y2 hC
   have h3 := elimR h3 hC
   refine RW.sreg (rl.run 1 rfl (rl.done (RW.ret ?_)))
   cases h3
   exact RRet.mk rfl .bool (by first | decide | simp)
 ·have h12 := iteBT hF hb
  refine rl.done (RW.cond_t rfl (RW.sreg (rl.run 1 rfl (rl.done (RW.ret ?_)))))
  cases h12
  exact RRet.mk rfl .bool (by first | decide | simp)
theorem law_laws_eqSeg {x0 : TSeg} {x1 : TSeg} {r : Bool} (hF : F_laws_eqSeg x0 x1 = some r) : PCalls Try.prog 53 [.agg (enc_TSeg false x0), .agg (enc_TSeg false x1)] (.bool r) := by
 refine PCalls.of_r k_laws_eqSeg rfl ?_
 unfold F_laws_eqSeg at hF
 refine RW.sreg (rl.run 3 rfl (rl.done (RW.seq (RW.sreg (rl.run 4 rfl ?_)))))
 refine rl.gen rfl rfl fun b hb => ?_
 cases b
 ·have h1 := iteBF hF hb
  refine rl.done (RW.cond_f rfl (RW.skip (RW.seq (RW.sreg (rl.run 4 rfl ?_)))))
  refine rl.gen rfl rfl fun b hb => ?_
  cases b
  ·have h2 := iteBF h1 hb
   refine rl.done ?_
   refine RW.keep [2, 3, 14] (a' := [(2, .ptr 0 0), (3, .ptr 1 0), (14, .bool false)]) (H' := [some ⟨[.int .i64 x0.No, .int .i64 x0.Gen, .int .i64 x0.End, .lst false 9 (fl (enc_TItem false) x0.Items) x0.Items.length], 0⟩, some ⟨[.int .i64 x1.No, .int .i64 x1.Gen, .int .i64 x1.End, .lst false 9 (fl (enc_TItem false) x1.Items) x1.Items.length], 0⟩]) rfl rfl ?_
   refine RW.cond_f rfl (RW.skip (RW.seq (RW.sreg (rl.run 4 rfl ?_))))
   refine rl.gen rfl rfl fun b hb => ?_
   cases b
   ·have h3 := iteBF h2 hb
    refine rl.done (RW.cond_f rfl (RW.skip (RW.seq (RW.sreg (rl.run 4 rfl ?_)))))
    obtain ⟨v1, e1, h4⟩ := bindS h3
    refine rl.call rfl rfl rfl (CallW.val (r' := .bool v1) ok_laws_eqItemS (law_laws_eqItemS e1) (.cons (.lst ek_TItem) (.cons (.lst ek_TItem) .nil)) .refl ?_)
    cases hb : v1
    ·have h5 := iteBF h4 hb
     refine rl.run 1 rfl (rl.done ?_)
     refine RW.keep [25] (a' := [(25, .bool true)]) (H' := [some ⟨[.int .i64 x0.No, .int .i64 x0.Gen, .int .i64 x0.End, .lst false 9 (fl (enc_TItem false) x0.Items) x0.Items.length], 0⟩, some ⟨[.int .i64 x1.No, .int .i64 x1.Gen, .int .i64 x1.End, .lst false 9 (fl (enc_TItem false) x1.Items) x1.Items.length], 0⟩]) rfl rfl ?_
     refine RW.cond_t rfl (RW.sreg (rl.run 1 rfl (rl.done (RW.ret ?_))))
     cases h5
     exact RRet.mk rfl .bool (by first | decide | simp)
    ·have h6 := iteBT h4 hb
     refine rl.run 1 rfl (rl.done ?_)
     refine RW.keep [25] (a' := [(25, .bool false)]) (H' := [some ⟨[.int .i64 x0.No, .int .i64 x0.Gen, .int .i64 x0.End, .lst false 9 (fl (enc_TItem false) x0.Items) x0.Items.length], 0⟩, some ⟨[.int .i64 x1.No, .int .i64 x1.Gen, .int .i64 x1.End, .lst false 9 (fl (enc_TItem false) x1.Items) x1.Items.length], 0⟩]) rfl rfl ?_
     refine RW.cond_f rfl (RW.skip (RW.sreg (rl.run 1 rfl (rl.done (RW.ret ?_)))))
     cases h6
     exact RRet.mk rfl .bool (by first | decide | simp)
   ·have h7 := iteBT h2 hb
    refine rl.done (RW.cond_t rfl (RW.sreg (rl.run 1 rfl (rl.done (RW.ret ?_)))))
    cases h7
    exact RRet.mk rfl .bool (by first | decide | simp)
  ·have h8 := iteBT h1 hb
   refine rl.done ?_
   refine RW.keep [2, 3, 14] (a' := [(2, .ptr 0 0), (3, .ptr 1 0), (14, .bool true)]) (H' := [some ⟨[.int .i64 x0.No, .int .i64 x0.Gen, .int .i64 x0.End, .lst false 9 (fl (enc_TItem false) x0.Items) x0.Items.length], 0⟩, some ⟨[.int .i64 x1.No, .int .i64 x1.Gen, .int .i64 x1.End, .lst false 9 (fl (enc_TItem false) x1.Items) x1.Items.length], 0⟩]) rfl rfl ?_
   refine RW.cond_t rfl (RW.sreg (rl.run 1 rfl (rl.done (RW.ret ?_))))
   cases h8
   exact RRet.mk rfl .bool (by first | decide | simp)
 ·have h9 := iteBT hF hb
  refine rl.done (RW.cond_t rfl (RW.sreg (rl.run 1 rfl (rl.done (RW.ret ?_)))))
  cases h9
  exact RRet.mk rfl .bool (by first | decide | simp)
theorem law_laws_markItemS_w {x0 : List TItem} {x1 : Int} {r : Int × (List TItem)} (hF : F_laws_markItemS_w x0 x1 = some r) : ACalls Try.prog 0 23 [.sl 0 0 x0.length, .int .i64 x1] [some ⟨fl (enc_TItem true) x0, 9⟩] (.int .i64 r.1) [some ⟨fl (enc_TItem true) r.2, 9⟩] := by
 refine ACalls.of_s k_laws_markItemS rfl ?_
 unfold F_laws_markItemS_w at hF
 refine RW.sreg (rl.run 1 rfl (rl.done (RW.seq (RW.sreg (rl.run 1 rfl (rl.done ?_))))))
 obtain ⟨y24, ey24, h2⟩ := bindS hF
 refine RW.cutq (σ := Int × (List TItem)) (fun y2 => [(1, .int .i64 y2.1)]) (fun y2 => [some ⟨fl (enc_TItem true) y2.2, 9⟩]) (fun y => y24 = y) (fun _ _ _ _ g h => RW.gh g h) ?_ ?_
 ·refine RW.blk ?_
  refine RW.iter (σ := Int × Int × (List TItem)) ey24 (fun s1 => [(0, .sl 0 0 s1.2.2.length), (1, .int .i64 s1.1), (5, .int .i64 s1.2.1)]) (fun s1 => [some ⟨fl (enc_TItem true) s1.2.2, 9⟩]) (Gh.renN [0] (.same rfl (ek_TItem.fref _ _) .nil) rfl rfl rfl (.cons rfl (.slq rfl rfl) (.cons rfl (.dat .int) (.cons rfl (.dat .int) .nil)))) (fun s1 B o hS1 hB1 hE1 => ?_)
  unfold S_laws_markItemS_w_1 at hS1
  refine RW.seq (RW.sreg (rl.run 3 rfl ?_))
  refine rl.gen rfl rfl fun b hb => ?_
  cases b
  ·have h3 := iteBF hS1 hb
   refine rl.done (RW.cond_f rfl (RW.exit (blkA_eq ?_)))
   cases h3
   exact ⟨_, (hE1 _ rfl).symm, (Gh.renN [0] (.same rfl (ek_TItem.fref _ _) .nil) rfl rfl rfl (.cons rfl (.dat .int) .nil))⟩
  ·have h4 := iteBT hS1 hb
   refine rl.done (RW.cond_t rfl (RW.skip (RW.seq (RW.blk (RW.sreg (rl.run 3 rfl ?_))))))
   obtain ⟨v3, e3, h5⟩ := bindS h4
   refine rl.op (x_ia_sl rfl rfl rfl rfl e3) ?_
   refine rl.run 1 rfl ?_
   obtain ⟨v4, e4, h6⟩ := bindS h5
   refine rl.op0 (x_st_sl' (off' := 0) (o := true) (e' := ({ Seq := s1.1, Rec := v3.Rec } : TItem)) ek_TItem e3 rfl rfl rfl rfl rfl rfl rfl rfl rfl e4) ?_
   refine rl.done (RW.sreg (rl.run 3 rfl (rl.done ?_)))
   refine RW.keep [0, 1, 5] (a' := [(0, .sl 0 0 s1.2.2.length), (1, .int .i64 (w64 (s1.1 + 1))), (5, .int .i64 s1.2.1)]) (H' := [some ⟨fl (enc_TItem true) v4, 9⟩]) rfl rfl ?_
   refine RW.sreg (rl.run 3 rfl ?_)
   obtain ⟨v5, e5, h7⟩ := bindS h6
   refine rl.op (x_ia_sl rfl rfl rfl (set'_len e4) e5) ?_
   refine rl.run 2 rfl ?_
   obtain ⟨v6, e6, h8⟩ := bindS h7
   refine rl.op0 (x_st_sl' (off' := 1) (o := true) (e' := ({ Seq := v5.Seq, Rec := ({ Kind := w64 (s1.1 + 1), Valid := v5.Rec.Valid, Uid := v5.Rec.Uid, Next := v5.Rec.Next, Flags := v5.Rec.Flags, User := v5.Rec.User, Name := v5.Rec.Name, Text := v5.Rec.Text } : TRec) } : TItem)) ek_TItem e5 rfl rfl rfl rfl rfl rfl rfl rfl rfl e6) ?_
   refine rl.done (RW.sreg (rl.run 3 rfl (rl.done (RW.sreg (rl.run 3 rfl ?_)))))
   obtain ⟨v7, e7, h9⟩ := bindS h8
   refine rl.op (x_ia_sl rfl rfl rfl ((set'_len e4).trans (set'_len e6)) e7) ?_
   refine rl.run 2 rfl ?_
   obtain ⟨v8, e8, h10⟩ := bindS h9
   refine rl.op0 (x_st_sl' (off' := 2) (o := true) (e' := ({ Seq := v7.Seq, Rec := ({ Kind := v7.Rec.Kind, Valid := w64 ((w64 (s1.1 + 1)) + 1), Uid := v7.Rec.Uid, Next := v7.Rec.Next, Flags := v7.Rec.Flags, User := v7.Rec.User, Name := v7.Rec.Name, Text := v7.Rec.Text } : TRec) } : TItem)) ek_TItem e7 rfl rfl rfl rfl rfl rfl rfl rfl rfl e8) ?_
   refine rl.done ?_
   refine RW.keep [0, 1, 5] (a' := [(0, .sl 0 0 s1.2.2.length), (1, .int .i64 (w64 ((w64 (s1.1 + 1)) + 1))), (5, .int .i64 s1.2.1)]) (H' := [some ⟨fl (enc_TItem true) v8, 9⟩]) rfl rfl ?_
   refine RW.sreg (rl.run 3 rfl (rl.done (RW.sreg (rl.run 3 rfl ?_))))
   obtain ⟨v9, e9, h11⟩ := bindS h10
   refine rl.op (x_ia_sl rfl rfl rfl (((set'_len e4).trans (set'_len e6)).trans (set'_len e8)) e9) ?_
   refine rl.run 2 rfl ?_
   obtain ⟨v10, e10, h12⟩ := bindS h11
   refine rl.op0 (x_st_sl' (off' := 3) (o := true) (e' := ({ Seq := v9.Seq, Rec := ({ Kind := v9.Rec.Kind, Valid := v9.Rec.Valid, Uid := w64 ((w64 ((w64 (s1.1 + 1)) + 1)) + 1), Next := v9.Rec.Next, Flags := v9.Rec.Flags, User := v9.Rec.User, Name := v9.Rec.Name, Text := v9.Rec.Text } : TRec) } : TItem)) ek_TItem e9 rfl rfl rfl rfl rfl rfl rfl rfl rfl e10) ?_
   refine rl.done (RW.sreg (rl.run 3 rfl (rl.done (RW.sreg (rl.run 3 rfl ?_)))))
   obtain ⟨v11, e11, h13⟩ := bindS h12
   refine rl.op (x_ia_sl rfl rfl rfl ((((set'_len e4).trans (set'_len e6)).trans (set'_len e8)).trans (set'_len e10)) e11) ?_
   refine rl.run 2 rfl ?_
   obtain ⟨v12, e12, h14⟩ := bindS h13
   refine rl.op0 (x_st_sl' (off' := 4) (o := true) (e' := ({ Seq := v11.Seq, Rec := ({ Kind := v11.Rec.Kind, Valid := v11.Rec.Valid, Uid := v11.Rec.Uid, Next := w64 ((w64 ((w64 ((w64 (s1.1 + 1)) + 1)) + 1)) + 1), Flags := v11.Rec.Flags, User := v11.Rec.User, Name := v11.Rec.Name, Text := v11.Rec.Text } : TRec) } : TItem)) ek_TItem e11 rfl rfl rfl rfl rfl rfl rfl rfl rfl e12) ?_
   refine rl.done ?_
   refine RW.keep [0, 1, 5] (a' := [(0, .sl 0 0 s1.2.2.length), (1, .int .i64 (w64 ((w64 ((w64 ((w64 (s1.1 + 1)) + 1)) + 1)) + 1))), (5, .int .i64 s1.2.1)]) (H' := [some ⟨fl (enc_TItem true) v12, 9⟩]) rfl rfl ?_
   refine RW.sreg (rl.run 3 rfl (rl.done (RW.sreg (rl.run 3 rfl ?_))))
   obtain ⟨v13, e13, h15⟩ := bindS h14
   refine rl.op (x_ia_sl rfl rfl rfl (((((set'_len e4).trans (set'_len e6)).trans (set'_len e8)).trans (set'_len e10)).trans (set'_len e12)) e13) ?_
   refine rl.run 2 rfl ?_
   obtain ⟨v14, e14, h16⟩ := bindS h15
   refine rl.op0 (x_st_sl' (off' := 5) (o := true) (e' := ({ Seq := v13.Seq, Rec := ({ Kind := v13.Rec.Kind, Valid := v13.Rec.Valid, Uid := v13.Rec.Uid, Next := v13.Rec.Next, Flags := w64 ((w64 ((w64 ((w64 ((w64 (s1.1 + 1)) + 1)) + 1)) + 1)) + 1), User := v13.Rec.User, Name := v13.Rec.Name, Text := v13.Rec.Text } : TRec) } : TItem)) ek_TItem e13 rfl rfl rfl rfl rfl rfl rfl rfl rfl e14) ?_
   refine rl.done (RW.sreg (rl.run 3 rfl (rl.done (RW.sreg (rl.run 3 rfl ?_)))))
   obtain ⟨v15, e15, h17⟩ := bindS h16
   refine rl.call rfl rfl rfl (CallW.val (r' := .str v15) ok_laws_markText (law_laws_markText e15) (.cons .int .nil) .refl ?_)
   obtain ⟨v16, e16, h18⟩ := bindS h17
   refine rl.op (x_ia_sl rfl rfl rfl ((((((set'_len e4).trans (set'_len e6)).trans (set'_len e8)).trans (set'_len e10)).trans (set'_len e12)).trans (set'_len e14)) e16) ?_
   refine rl.run 2 rfl ?_
   obtain ⟨v17, e17, h19⟩ := bindS h18
   refine rl.op0 (x_st_sl' (off' := 6) (o := true) (e' := ({ Seq := v16.Seq, Rec := ({ Kind := v16.Rec.Kind, Valid := v16.Rec.Valid, Uid := v16.Rec.Uid, Next := v16.Rec.Next, Flags := v16.Rec.Flags, User := v15, Name := v16.Rec.Name, Text := v16.Rec.Text } : TRec) } : TItem)) ek_TItem e16 rfl rfl rfl rfl rfl rfl rfl rfl rfl e17) ?_
   refine rl.done ?_
   refine RW.keep [0, 1, 5] (a' := [(0, .sl 0 0 s1.2.2.length), (1, .int .i64 (w64 ((w64 ((w64 ((w64 ((w64 ((w64 (s1.1 + 1)) + 1)) + 1)) + 1)) + 1)) + 1))), (5, .int .i64 s1.2.1)]) (H' := [some ⟨fl (enc_TItem true) v17, 9⟩]) rfl rfl ?_
   refine RW.sreg (rl.run 3 rfl (rl.done (RW.sreg (rl.run 3 rfl ?_))))
   obtain ⟨v18, e18, h20⟩ := bindS h19
   refine rl.call rfl rfl rfl (CallW.val (r' := .str v18) ok_laws_markText (law_laws_markText e18) (.cons .int .nil) .refl ?_)
   obtain ⟨v19, e19, h21⟩ := bindS h20
   refine rl.op (x_ia_sl rfl rfl rfl (((((((set'_len e4).trans (set'_len e6)).trans (set'_len e8)).trans (set'_len e10)).trans (set'_len e12)).trans (set'_len e14)).trans (set'_len e17)) e19) ?_
   refine rl.run 2 rfl ?_
   obtain ⟨v20, e20, h22⟩ := bindS h21
   refine rl.op0 (x_st_sl' (off' := 7) (o := true) (e' := ({ Seq := v19.Seq, Rec := ({ Kind := v19.Rec.Kind, Valid := v19.Rec.Valid, Uid := v19.Rec.Uid, Next := v19.Rec.Next, Flags := v19.Rec.Flags, User := v19.Rec.User, Name := v18, Text := v19.Rec.Text } : TRec) } : TItem)) ek_TItem e19 rfl rfl rfl rfl rfl rfl rfl rfl rfl e20) ?_
   refine rl.done (RW.sreg (rl.run 3 rfl (rl.done ?_)))
   refine RW.keep [0, 1, 5] (a' := [(0, .sl 0 0 s1.2.2.length), (1, .int .i64 (w64 ((w64 ((w64 ((w64 ((w64 ((w64 ((w64 ((w64 (s1.1 + 1)) + 1)) + 1)) + 1)) + 1)) + 1)) + 1)) + 1))), (5, .int .i64 s1.2.1)]) (H' := [some ⟨fl (enc_TItem true) v20, 9⟩]) rfl rfl ?_
   refine RW.sreg (rl.run 3 rfl ?_)
   obtain ⟨v21, e21, h23⟩ := bindS h22
   refine rl.call rfl rfl rfl (CallW.val (r' := .str v21) ok_laws_markText (law_laws_markText e21) (.cons .int .nil) .refl ?_)
   obtain ⟨v22, e22, h24⟩ := bindS h23
   refine rl.op (x_ia_sl rfl rfl rfl ((((((((set'_len e4).trans (set'_len e6)).trans (set'_len e8)).trans (set'_len e10)).trans (set'_len e12)).trans (set'_len e14)).trans (set'_len e17)).trans (set'_len e20)) e22) ?_
   refine rl.run 2 rfl ?_
   obtain ⟨v23, e23, h25⟩ := bindS h24
   refine rl.op0 (x_st_sl' (off' := 8) (o := true) (e' := ({ Seq := v22.Seq, Rec := ({ Kind := v22.Rec.Kind, Valid := v22.Rec.Valid, Uid := v22.Rec.Uid, Next := v22.Rec.Next, Flags := v22.Rec.Flags, User := v22.Rec.User, Name := v22.Rec.Name, Text := v21 } : TRec) } : TItem)) ek_TItem e22 rfl rfl rfl rfl rfl rfl rfl rfl rfl e23) ?_
   refine rl.done (RW.reg (rl.run 3 rfl (rl.done (RW.reg (rl.run 3 rfl (rl.done ?_))))))
   cases h25
   exact hB1 _ rfl _ _ (Gh.renN [0] (.same rfl (ek_TItem.fref _ _) .nil) rfl rfl rfl (.cons rfl (.slq rfl (((((((((set'_len e4).trans (set'_len e6)).trans (set'_len e8)).trans (set'_len e10)).trans (set'_len e12)).trans (set'_len e14)).trans (set'_len e17)).trans (set'_len e20)).trans (set'_len e23))) (.cons rfl (.dat .int) (.cons rfl (.dat .int) .nil))))
 ·intro y2 hC
  subst hC
  refine RW.sreg (rl.run 2 rfl (rl.done (RW.ret ?_)))
  cases h2
  exact RRetS.mk rfl .int (Gh.renN [0] (.same rfl (ek_TItem.fref _ _) .nil) rfl rfl rfl .nil)
theorem law_laws_markSeg_w {x0 : Int} {x1 : Int} {x2 : Int} {x3 : List TItem} {x4 : Int} {r : Int × (List TItem)} (hF : F_laws_markSeg_w x0 x1 x2 x3 x4 = some r) : ACalls Try.prog 0 54 [.agg [.int .i64 x0, .int .i64 x1, .int .i64 x2, .sl 0 0 x3.length], .int .i64 x4] [some ⟨fl (enc_TItem true) x3, 9⟩] (.int .i64 r.1) [some ⟨fl (enc_TItem true) r.2, 9⟩] := by
 refine ACalls.of_s k_laws_markSeg rfl ?_
 unfold F_laws_markSeg_w at hF
 refine RW.sreg (rl.run 2 rfl (rl.done (RW.sreg (rl.run 3 rfl ?_))))
 obtain ⟨v1, e1, h1⟩ := bindS hF
 refine rl.call rfl rfl rfl (CallW.embW (r0 := .int .i64 v1.1) (H' := [some ⟨fl (enc_TItem true) v1.2, 9⟩, some ⟨[.int .i64 x0, .int .i64 x1, .int .i64 x2, .sl 0 0 x3.length], 0⟩]) [⟨fl (enc_TItem true) x3, 9⟩] [⟨fl (enc_TItem true) v1.2, 9⟩] [0] ok_laws_markItemS (law_laws_markItemS_w (guardO_s e1)) (.cons rfl (ek_TItem.fref _ _) (ek_TItem.fown _) .nil) rfl (.cons (.slq rfl rfl) (.cons (.dat .int) .nil)) .int rfl rfl ?_)
 refine rl.run 1 rfl (rl.done (RW.sreg (rl.run 2 rfl (rl.done (RW.ret ?_)))))
 cases h1
 exact RRetS.mk rfl .int (Gh.renN [0] (.same rfl (ek_TItem.fref _ _) .nil) rfl rfl rfl .nil)
set_option maxHeartbeats 2000000 in
theorem law_laws_heldItemS {x0 : List TItem} {x1 : Int} {r : Int} (hF : F_laws_heldItemS x0 x1 = some r) : PCalls Try.prog 29 [.lst false 9 (fl (enc_TItem false) x0) x0.length, .int .i64 x1] (.int .i64 r) := by
 refine PCalls.of_r k_laws_heldItemS rfl ?_
 unfold F_laws_heldItemS at hF
 refine RW.sreg (rl.run 1 rfl (rl.done (RW.seq (RW.sreg (rl.run 1 rfl (rl.done ?_))))))
 obtain ⟨y15, ey15, h2⟩ := bindS hF
 refine RW.cutq (σ := Int) (fun y2 => [(1, .int .i64 y2)]) (fun y2 => []) (fun y => y15 = .inr y) (fun _ _ _ _ g h => RW.gh g h) ?_ ?_
 ·refine RW.blk ?_
  refine RW.iter (σ := Int × Int) ey15 (fun s1 => [(0, .lst false 9 (fl (enc_TItem false) x0) x0.length), (1, .int .i64 s1.1), (5, .int .i64 s1.2)]) (fun s1 => []) (Gh.ren0 [] .nil rfl (.cons rfl (.dat (ek_TItem.rlst)) (.cons rfl (.dat .int) (.cons rfl (.dat .int) .nil)))) (fun s1 B o hS1 hB1 hE1 => ?_)
  unfold S_laws_heldItemS_1 at hS1
  refine RW.seq (RW.sreg (rl.run 3 rfl ?_))
  refine rl.gen rfl rfl fun b hb => ?_
  cases b
  ·have h3 := iteBF hS1 hb
   refine rl.done (RW.cond_f rfl (RW.exit (blkA_eq ?_)))
   cases h3
   exact ⟨_, (hE1 _ rfl).symm, (Gh.ren0 [] .nil rfl (.cons rfl (.dat .int) .nil))⟩
  ·have h4 := iteBT hS1 hb
   refine rl.done (RW.cond_t rfl (RW.skip (RW.seq (RW.blk (RW.seq (RW.sreg (rl.run 2 rfl ?_)))))))
   obtain ⟨v3, e3, h5⟩ := bindS h4
   refine rl.op (x_ia_lst (enc := enc_TItem) (o := false) rfl rfl rfl e3) ?_
   refine rl.run 1 rfl ?_
   refine rl.op (x_ld_el (off' := 0) ek_TItem rfl e3 rfl rfl rfl) ?_
   refine rl.run 1 rfl ?_
   refine rl.gen rfl rfl fun b hb => ?_
   cases b
   ·have h6 := iteBF h5 hb
    refine rl.done (RW.cond_f rfl (RW.skip (RW.sreg (rl.run 3 rfl (rl.done ?_)))))
    refine RW.keep [0, 1, 5] (a' := [(0, .lst false 9 (fl (enc_TItem false) x0) x0.length), (1, .int .i64 (w64 (s1.1 + 1))), (5, .int .i64 s1.2)]) (H' := []) rfl rfl ?_
    refine RW.seq (RW.sreg (rl.run 2 rfl ?_))
    obtain ⟨v4, e4, h7⟩ := bindS h6
    refine rl.op (x_ia_lst (enc := enc_TItem) (o := false) rfl rfl rfl e4) ?_
    refine rl.run 2 rfl ?_
    refine rl.op (x_ld_el (off' := 1) ek_TItem rfl e4 rfl rfl rfl) ?_
    refine rl.run 1 rfl ?_
    refine rl.gen rfl rfl fun b hb => ?_
    cases b
    ·have h8 := iteBF h7 hb
     refine rl.done (RW.cond_f rfl (RW.skip (RW.sreg (rl.run 3 rfl (rl.done (RW.seq (RW.sreg (rl.run 2 rfl ?_))))))))
     obtain ⟨v5, e5, h9⟩ := bindS h8
     refine rl.op (x_ia_lst (enc := enc_TItem) (o := false) rfl rfl rfl e5) ?_
     refine rl.run 2 rfl ?_
     refine rl.op (x_ld_el (off' := 2) ek_TItem rfl e5 rfl rfl rfl) ?_
     refine rl.run 1 rfl ?_
     refine rl.gen rfl rfl fun b hb => ?_
     cases b
     ·have h10 := iteBF h9 hb
      refine rl.done ?_
      refine RW.keep [0, 1, 5, 38] (a' := [(0, .lst false 9 (fl (enc_TItem false) x0) x0.length), (1, .int .i64 (w64 ((w64 (s1.1 + 1)) + 1))), (5, .int .i64 s1.2), (38, .bool false)]) (H' := []) rfl rfl ?_
      refine RW.cond_f rfl (RW.skip (RW.sreg (rl.run 3 rfl (rl.done (RW.seq (RW.sreg (rl.run 2 rfl ?_)))))))
      obtain ⟨v6, e6, h11⟩ := bindS h10
      refine rl.op (x_ia_lst (enc := enc_TItem) (o := false) rfl rfl rfl e6) ?_
      refine rl.run 2 rfl ?_
      refine rl.op (x_ld_el (off' := 3) ek_TItem rfl e6 rfl rfl rfl) ?_
      refine rl.run 1 rfl ?_
      refine rl.gen rfl rfl fun b hb => ?_
      cases b
      ·have h12 := iteBF h11 hb
       refine rl.done (RW.cond_f rfl (RW.skip (RW.sreg (rl.run 3 rfl (rl.done ?_)))))
       refine RW.keep [0, 1, 5] (a' := [(0, .lst false 9 (fl (enc_TItem false) x0) x0.length), (1, .int .i64 (w64 ((w64 ((w64 ((w64 (s1.1 + 1)) + 1)) + 1)) + 1))), (5, .int .i64 s1.2)]) (H' := []) rfl rfl ?_
       refine RW.seq (RW.sreg (rl.run 2 rfl ?_))
       obtain ⟨v7, e7, h13⟩ := bindS h12
       refine rl.op (x_ia_lst (enc := enc_TItem) (o := false) rfl rfl rfl e7) ?_
       refine rl.run 2 rfl ?_
       refine rl.op (x_ld_el (off' := 4) ek_TItem rfl e7 rfl rfl rfl) ?_
       refine rl.run 1 rfl ?_
       refine rl.gen rfl rfl fun b hb => ?_
       cases b
       ·have h14 := iteBF h13 hb
        refine rl.done (RW.cond_f rfl (RW.skip (RW.sreg (rl.run 3 rfl (rl.done (RW.seq (RW.sreg (rl.run 2 rfl ?_))))))))
        obtain ⟨v8, e8, h15⟩ := bindS h14
        refine rl.op (x_ia_lst (enc := enc_TItem) (o := false) rfl rfl rfl e8) ?_
        refine rl.run 2 rfl ?_
        refine rl.op (x_ld_el (off' := 5) ek_TItem rfl e8 rfl rfl rfl) ?_
        refine rl.run 1 rfl ?_
        refine rl.gen rfl rfl fun b hb => ?_
        cases b
        ·have h16 := iteBF h15 hb
         refine rl.done ?_
         refine RW.keep [0, 1, 5, 68] (a' := [(0, .lst false 9 (fl (enc_TItem false) x0) x0.length), (1, .int .i64 (w64 ((w64 ((w64 ((w64 ((w64 (s1.1 + 1)) + 1)) + 1)) + 1)) + 1))), (5, .int .i64 s1.2), (68, .bool false)]) (H' := []) rfl rfl ?_
         refine RW.cond_f rfl (RW.skip (RW.sreg (rl.run 3 rfl (rl.done (RW.seq (RW.sdrw (rdraw.op rfl rfl (rdraw.op rfl rfl ?_))))))))
         obtain ⟨v9, e9, h17⟩ := bindS h16
         refine rdraw.op rfl (x_ia_lst (enc := enc_TItem) (o := false) rfl rfl rfl e9) ?_
         refine rdraw.op rfl rfl (rdraw.op rfl rfl ?_)
         refine rdraw.op rfl (x_ld_el (off' := 6) ek_TItem rfl e9 rfl rfl rfl) ?_
         refine rdraw.op rfl rfl ?_
         obtain ⟨v10, e10, h18⟩ := bindS h17
         refine rdraw.call rfl rfl rfl (CallW.val (r' := .str v10) ok_laws_markText (law_laws_markText e10) (.cons .int .nil) .refl ⟨rfl, ?_⟩)
         refine rdraw.gen rfl rfl fun b hb => ?_
         cases b
         ·have h19 := iteBF h18 hb
          refine rdraw.done ?_
          refine RW.keep [0, 1, 5, 79] (a' := [(0, .lst false 9 (fl (enc_TItem false) x0) x0.length), (1, .int .i64 (w64 ((w64 ((w64 ((w64 ((w64 ((w64 (s1.1 + 1)) + 1)) + 1)) + 1)) + 1)) + 1))), (5, .int .i64 s1.2), (79, .bool false)]) (H' := []) rfl rfl ?_
          refine RW.cond_f rfl (RW.skip (RW.sreg (rl.run 3 rfl (rl.done (RW.seq (RW.sdrw (rdraw.op rfl rfl (rdraw.op rfl rfl ?_))))))))
          obtain ⟨v11, e11, h20⟩ := bindS h19
          refine rdraw.op rfl (x_ia_lst (enc := enc_TItem) (o := false) rfl rfl rfl e11) ?_
          refine rdraw.op rfl rfl (rdraw.op rfl rfl ?_)
          refine rdraw.op rfl (x_ld_el (off' := 7) ek_TItem rfl e11 rfl rfl rfl) ?_
          refine rdraw.op rfl rfl ?_
          obtain ⟨v12, e12, h21⟩ := bindS h20
          refine rdraw.call rfl rfl rfl (CallW.val (r' := .str v12) ok_laws_markText (law_laws_markText e12) (.cons .int .nil) .refl ⟨rfl, ?_⟩)
          refine rdraw.gen rfl rfl fun b hb => ?_
          cases b
          ·have h22 := iteBF h21 hb
           refine rdraw.done ?_
           refine RW.keep [0, 1, 5, 90] (a' := [(0, .lst false 9 (fl (enc_TItem false) x0) x0.length), (1, .int .i64 (w64 ((w64 ((w64 ((w64 ((w64 ((w64 ((w64 (s1.1 + 1)) + 1)) + 1)) + 1)) + 1)) + 1)) + 1))), (5, .int .i64 s1.2), (90, .bool false)]) (H' := []) rfl rfl ?_
           refine RW.cond_f rfl (RW.skip (RW.sreg (rl.run 3 rfl (rl.done (RW.seq (RW.sdrw (rdraw.op rfl rfl (rdraw.op rfl rfl ?_))))))))
           obtain ⟨v13, e13, h23⟩ := bindS h22
           refine rdraw.op rfl (x_ia_lst (enc := enc_TItem) (o := false) rfl rfl rfl e13) ?_
           refine rdraw.op rfl rfl (rdraw.op rfl rfl ?_)
           refine rdraw.op rfl (x_ld_el (off' := 8) ek_TItem rfl e13 rfl rfl rfl) ?_
           refine rdraw.op rfl rfl ?_
           obtain ⟨v14, e14, h24⟩ := bindS h23
           refine rdraw.call rfl rfl rfl (CallW.val (r' := .str v14) ok_laws_markText (law_laws_markText e14) (.cons .int .nil) .refl ⟨rfl, ?_⟩)
           refine rdraw.gen rfl rfl fun b hb => ?_
           cases b
           ·have h25 := iteBF h24 hb
            refine rdraw.done ?_
            refine RW.keep [0, 1, 5, 101] (a' := [(0, .lst false 9 (fl (enc_TItem false) x0) x0.length), (1, .int .i64 (w64 ((w64 ((w64 ((w64 ((w64 ((w64 ((w64 ((w64 (s1.1 + 1)) + 1)) + 1)) + 1)) + 1)) + 1)) + 1)) + 1))), (5, .int .i64 s1.2), (101, .bool false)]) (H' := []) rfl rfl ?_
            refine RW.cond_f rfl (RW.skip (RW.reg (rl.run 3 rfl (rl.done (RW.reg (rl.run 3 rfl (rl.done ?_)))))))
            cases h25
            exact hB1 _ rfl _ _ (Gh.ren0 [] .nil rfl (.cons rfl (.dat (ek_TItem.rlst)) (.cons rfl (.dat .int) (.cons rfl (.dat .int) .nil))))
           ·have h26 := iteBT h24 hb
            refine rdraw.done ?_
            refine RW.keep [0, 1, 5, 101] (a' := [(0, .lst false 9 (fl (enc_TItem false) x0) x0.length), (1, .int .i64 (w64 ((w64 ((w64 ((w64 ((w64 ((w64 ((w64 ((w64 (s1.1 + 1)) + 1)) + 1)) + 1)) + 1)) + 1)) + 1)) + 1))), (5, .int .i64 s1.2), (101, .bool true)]) (H' := []) rfl rfl ?_
            refine RW.cond_t rfl (RW.sreg (rl.run 1 rfl (rl.done (RW.ret ?_))))
            cases h26
            have h27 := elimL h2 (hE1 _ rfl)
            cases h27
            exact RRet.mk rfl .int (by first | decide | simp)
          ·have h28 := iteBT h21 hb
           refine rdraw.done ?_
           refine RW.keep [0, 1, 5, 90] (a' := [(0, .lst false 9 (fl (enc_TItem false) x0) x0.length), (1, .int .i64 (w64 ((w64 ((w64 ((w64 ((w64 ((w64 ((w64 (s1.1 + 1)) + 1)) + 1)) + 1)) + 1)) + 1)) + 1))), (5, .int .i64 s1.2), (90, .bool true)]) (H' := []) rfl rfl ?_
           refine RW.cond_t rfl (RW.sreg (rl.run 1 rfl (rl.done (RW.ret ?_))))
           cases h28
           have h29 := elimL h2 (hE1 _ rfl)
           cases h29
           exact RRet.mk rfl .int (by first | decide | simp)
         ·have h30 := iteBT h18 hb
          refine rdraw.done ?_
          refine RW.keep [0, 1, 5, 79] (a' := [(0, .lst false 9 (fl (enc_TItem false) x0) x0.length), (1, .int .i64 (w64 ((w64 ((w64 ((w64 ((w64 ((w64 (s1.1 + 1)) + 1)) + 1)) + 1)) + 1)) + 1))), (5, .int .i64 s1.2), (79, .bool true)]) (H' := []) rfl rfl ?_
          refine RW.cond_t rfl (RW.sreg (rl.run 1 rfl (rl.done (RW.ret ?_))))
          cases h30
          have h31 := elimL h2 (hE1 _ rfl)
          cases h31
          exact RRet.mk rfl .int (by first | decide | simp)
        ·have h32 := iteBT h15 hb
         refine rl.done ?_
         refine RW.keep [0, 1, 5, 68] (a' := [(0, .lst false 9 (fl (enc_TItem false) x0) x0.length), (1, .int .i64 (w64 ((w64 ((w64 ((w64 ((w64 (s1.1 + 1)) + 1)) + 1)) + 1)) + 1))), (5, .int .i64 s1.2), (68, .bool true)]) (H' := []) rfl rfl ?_
         refine RW.cond_t rfl (RW.sreg (rl.run 1 rfl (rl.done (RW.ret ?_))))
         cases h32
         have h33 := elimL h2 (hE1 _ rfl)
         cases h33
         exact RRet.mk rfl .int (by first | decide | simp)
       ·have h34 := iteBT h13 hb
        refine rl.done (RW.cond_t rfl (RW.sreg (rl.run 1 rfl (rl.done ?_))))
        refine RW.keep [4] (a' := [(4, .int .i64 (-1))]) (H' := []) rfl rfl ?_
        refine RW.ret ?_
        cases h34
        have h35 := elimL h2 (hE1 _ rfl)
        cases h35
        exact RRet.mk rfl .int (by first | decide | simp)
      ·have h36 := iteBT h11 hb
       refine rl.done (RW.cond_t rfl (RW.sreg (rl.run 1 rfl (rl.done ?_))))
       refine RW.keep [4] (a' := [(4, .int .i64 (-1))]) (H' := []) rfl rfl ?_
       refine RW.ret ?_
       cases h36
       have h37 := elimL h2 (hE1 _ rfl)
       cases h37
       exact RRet.mk rfl .int (by first | decide | simp)
     ·have h38 := iteBT h9 hb
      refine rl.done ?_
      refine RW.keep [0, 1, 5, 38] (a' := [(0, .lst false 9 (fl (enc_TItem false) x0) x0.length), (1, .int .i64 (w64 ((w64 (s1.1 + 1)) + 1))), (5, .int .i64 s1.2), (38, .bool true)]) (H' := []) rfl rfl ?_
      refine RW.cond_t rfl (RW.sreg (rl.run 1 rfl (rl.done (RW.ret ?_))))
      cases h38
      have h39 := elimL h2 (hE1 _ rfl)
      cases h39
      exact RRet.mk rfl .int (by first | decide | simp)
    ·have h40 := iteBT h7 hb
     refine rl.done (RW.cond_t rfl (RW.sreg (rl.run 1 rfl (rl.done ?_))))
     refine RW.keep [4] (a' := [(4, .int .i64 (-1))]) (H' := []) rfl rfl ?_
     refine RW.ret ?_
     cases h40
     have h41 := elimL h2 (hE1 _ rfl)
     cases h41
     exact RRet.mk rfl .int (by first | decide | simp)
   ·have h42 := iteBT h5 hb
    refine rl.done (RW.cond_t rfl (RW.sreg (rl.run 1 rfl (rl.done ?_))))
    refine RW.keep [4] (a' := [(4, .int .i64 (-1))]) (H' := []) rfl rfl ?_
    refine RW.ret ?_
    cases h42
    have h43 := elimL h2 (hE1 _ rfl)
    cases h43
    exact RRet.mk rfl .int (by first | decide | simp)
 ·intro y2 hC
  have h2 := elimR h2 hC
  refine RW.sreg (rl.run 2 rfl (rl.done (RW.ret ?_)))
  cases h2
  exact RRet.mk rfl .int (by first | decide | simp)
theorem law_laws_heldSeg {x0 : TSeg} {x1 : Int} {r : Int} (hF : F_laws_heldSeg x0 x1 = some r) : PCalls Try.prog 55 [.agg (enc_TSeg false x0), .int .i64 x1] (.int .i64 r) := by
 refine PCalls.of_r k_laws_heldSeg rfl ?_
 unfold F_laws_heldSeg at hF
 refine RW.sreg (rl.run 2 rfl (rl.done (RW.sreg (rl.run 3 rfl ?_))))
 obtain ⟨v1, e1, h1⟩ := bindS hF
 refine rl.call rfl rfl rfl (CallW.val (r' := .int .i64 v1) ok_laws_heldItemS (law_laws_heldItemS e1) (.cons (.lst ek_TItem) (.cons .int .nil)) .refl ?_)
 refine rl.run 1 rfl (rl.done (RW.seq (RW.sreg (rl.run 1 rfl ?_))))
 refine rl.gen rfl rfl fun b hb => ?_
 cases b
 ·have h2 := iteBF h1 hb
  refine rl.done (RW.cond_f rfl (RW.skip (RW.sreg (rl.run 2 rfl (rl.done (RW.ret ?_))))))
  cases h2
  exact RRet.mk rfl .int (by first | decide | simp)
 ·have h3 := iteBT h1 hb
  refine rl.done (RW.cond_t rfl (RW.sreg (rl.run 1 rfl (rl.done (RW.ret ?_)))))
  cases h3
  exact RRet.mk rfl .int (by first | decide | simp)
set_option maxHeartbeats 2000000 in
theorem law_laws_FnExactSegOf {x0 : TDisk} {x1 : Int} {r : Bool} (hF : F_laws_FnExactSegOf x0 x1 = some r) : PCalls Try.prog 10 [.agg (enc_TDisk false x0), .int .i64 x1] (.bool r) := by
 refine PCalls.of_r k_laws_FnExactSegOf rfl ?_
 unfold F_laws_FnExactSegOf at hF
 refine RW.sreg (rl.run 2 rfl (rl.done (RW.sreg (rl.run 1 rfl (rl.done (RW.sreg (rl.run 2 rfl ?_)))))))
 obtain ⟨v1, e1, h1⟩ := bindS hF
 refine rl.call rfl rfl rfl (CallW.val (r' := .int .i64 v1) ok_laws_szDisk (law_laws_szDisk e1) (.cons (DFL.agg (.cons (.lst ekS) (.cons (.lst ek_TWrite) .nil))) (.cons .int .nil)) .refl ?_)
 refine rl.run 1 rfl (rl.done (RW.seq (RW.sreg (rl.run 1 rfl ?_))))
 refine rl.gen rfl rfl fun b hb => ?_
 cases b
 ·have h2 := iteBF h1 hb
  refine rl.done (RW.cond_f rfl (RW.skip (RW.sreg (rl.run 1 rfl ?_))))
  obtain ⟨v2, e2, h3⟩ := bindS h2
  refine rl.call rfl rfl rfl (CallW.val (r' := .agg (enc_TDisk false v2)) ok_laws_toDisk (law_laws_toDisk e2) (.cons (DFL.agg (.cons (.lst ekS) (.cons (.lst ek_TWrite) .nil))) .nil) (ek_TDisk.flag _).agg ?_)
  refine rl.run 1 rfl ?_
  obtain ⟨v3, e3, h4⟩ := bindS h3
  refine rl.call rfl rfl rfl (CallW.val (r' := .agg (enc_TSeg false v3)) ok_spec_SegOf (law_spec_SegOf e3) (.cons (.dat (.agg (ek_TDisk.dat false _))) (.cons .int .nil)) (ek_TSeg.flag _).agg ?_)
  refine rl.run 2 rfl (rl.done ?_)
  refine RW.keep [1, 2, 6] (a' := [(1, .int .i64 x1), (2, .ptr 0 0), (6, .ptr 1 0)]) (H' := [some ⟨[.lst false 1 (fl (encS false) x0.Sectors) x0.Sectors.length, .lst false 2 (fl (enc_TWrite false) x0.Cache) x0.Cache.length], 0⟩, some ⟨[.int .i64 v3.No, .int .i64 v3.Gen, .int .i64 v3.End, .lst false 9 (fl (enc_TItem false) v3.Items) v3.Items.length], 0⟩]) rfl rfl ?_
  refine RW.sreg (rl.run 1 rfl ?_)
  obtain ⟨v4, e4, h5⟩ := bindS h4
  refine rl.call rfl rfl rfl (CallW.own (r' := .agg [.sl 2 0 v4.Sectors.length, .sl 3 0 v4.Cache.length]) (H' := [some ⟨[.lst false 1 (fl (encS false) x0.Sectors) x0.Sectors.length, .lst false 2 (fl (enc_TWrite false) x0.Cache) x0.Cache.length], 0⟩, some ⟨[.int .i64 v3.No, .int .i64 v3.Gen, .int .i64 v3.End, .lst false 9 (fl (enc_TItem false) v3.Items) v3.Items.length], 0⟩, some ⟨fl (encS true) v4.Sectors, 1⟩, some ⟨fl (enc_TWrite true) v4.Cache, 2⟩]) ok_laws_toDisk (law_laws_toDisk e4) (.cons (DFL.agg (.cons (.lst ekS) (.cons (.lst ek_TWrite) .nil))) .nil) (ek_TDisk.own _) rfl ?_)
  refine rl.run 2 rfl (rl.done (RW.sreg (rl.run 2 rfl ?_)))
  obtain ⟨v5, e5, h6⟩ := bindS h5
  refine rl.call rfl rfl rfl (CallW.own (r' := .agg [.int .i64 v5.No, .int .i64 v5.Gen, .int .i64 v5.End, .sl 5 0 v5.Items.length]) (H' := [some ⟨[.lst false 1 (fl (encS false) x0.Sectors) x0.Sectors.length, .lst false 2 (fl (enc_TWrite false) x0.Cache) x0.Cache.length], 0⟩, some ⟨[.int .i64 v3.No, .int .i64 v3.Gen, .int .i64 v3.End, .lst false 9 (fl (enc_TItem false) v3.Items) v3.Items.length], 0⟩, some ⟨fl (encS true) v4.Sectors, 1⟩, some ⟨fl (enc_TWrite true) v4.Cache, 2⟩, some ⟨[.sl 2 0 v4.Sectors.length, .sl 3 0 v4.Cache.length], 0⟩, some ⟨fl (enc_TItem true) v5.Items, 9⟩]) ok_impl_SegOf (law_impl_SegOf e5) (.cons (DFL.agg (.cons (.slq ekS rfl rfl) (.cons (.slq ek_TWrite rfl rfl) .nil))) (.cons .int .nil)) (ek_TSeg.own _) rfl ?_)
  refine rl.run 2 rfl (rl.done (RW.seq (RW.sreg (rl.run 2 rfl ?_))))
  obtain ⟨v6, e6, h7⟩ := bindS h6
  refine rl.call rfl rfl rfl (CallW.val (r' := .bool v6) ok_laws_eqSeg (law_laws_eqSeg e6) (.cons (DFL.agg (.cons .int (.cons .int (.cons .int (.cons (.slq ek_TItem rfl rfl) .nil))))) (.cons (DFL.agg (.cons .int (.cons .int (.cons .int (.cons (.lst ek_TItem) .nil))))) .nil)) .refl ?_)
  cases hb : v6
  ·have h8 := iteBF h7 hb
   refine rl.run 1 rfl (rl.done (RW.cond_t rfl (RW.sreg (rl.run 1 rfl (rl.done ?_)))))
   refine RW.keep [4] (a' := [(4, .bool false)]) (H' := [some ⟨[.lst false 1 (fl (encS false) x0.Sectors) x0.Sectors.length, .lst false 2 (fl (enc_TWrite false) x0.Cache) x0.Cache.length], 0⟩, some ⟨[.int .i64 v3.No, .int .i64 v3.Gen, .int .i64 v3.End, .lst false 9 (fl (enc_TItem false) v3.Items) v3.Items.length], 0⟩, some ⟨fl (encS true) v4.Sectors, 1⟩, some ⟨fl (enc_TWrite true) v4.Cache, 2⟩, some ⟨[.sl 2 0 v4.Sectors.length, .sl 3 0 v4.Cache.length], 0⟩, some ⟨fl (enc_TItem true) v5.Items, 9⟩, some ⟨[.int .i64 v5.No, .int .i64 v5.Gen, .int .i64 v5.End, .sl 5 0 v5.Items.length], 0⟩]) rfl rfl ?_
   refine RW.ret ?_
   cases h8
   exact RRet.mk rfl .bool (by first | decide | simp)
  ·have h9 := iteBT h7 hb
   refine rl.run 1 rfl (rl.done (RW.cond_f rfl (RW.skip (RW.seq (RW.sdrw (rdraw.op rfl rfl (rdraw.op rfl rfl ?_)))))))
   obtain ⟨v7, e7, h10⟩ := bindS h9
   refine rdraw.call rfl rfl rfl (CallW.val (r' := .agg (enc_TDisk false v7)) ok_laws_toDisk (law_laws_toDisk e7) (.cons (DFL.agg (.cons (.lst ekS) (.cons (.lst ek_TWrite) .nil))) .nil) (ek_TDisk.flag _).agg ⟨rfl, ?_⟩)
   obtain ⟨v8, e8, h11⟩ := bindS h10
   refine rdraw.call rfl rfl rfl (CallW.val (r' := .bool v8) ok_laws_eqDisk (law_laws_eqDisk e8) (.cons (DFL.agg (.cons (.slq ekS rfl rfl) (.cons (.slq ek_TWrite rfl rfl) .nil))) (.cons (.dat (.agg (ek_TDisk.dat false _))) .nil)) .refl ⟨rfl, ?_⟩)
   cases hb : v8
   ·have h12 := iteBF h11 hb
    refine rdraw.op rfl rfl (rdraw.done ?_)
    refine RW.keep [1, 2, 6, 7, 8, 35] (a' := [(1, .int .i64 x1), (2, .ptr 0 0), (6, .ptr 1 0), (7, .ptr 4 0), (8, .ptr 6 0), (35, .bool true)]) (H' := [some ⟨[.lst false 1 (fl (encS false) x0.Sectors) x0.Sectors.length, .lst false 2 (fl (enc_TWrite false) x0.Cache) x0.Cache.length], 0⟩, some ⟨[.int .i64 v3.No, .int .i64 v3.Gen, .int .i64 v3.End, .lst false 9 (fl (enc_TItem false) v3.Items) v3.Items.length], 0⟩, some ⟨fl (encS true) v4.Sectors, 1⟩, some ⟨fl (enc_TWrite true) v4.Cache, 2⟩, some ⟨[.sl 2 0 v4.Sectors.length, .sl 3 0 v4.Cache.length], 0⟩, some ⟨fl (enc_TItem true) v5.Items, 9⟩, some ⟨[.int .i64 v5.No, .int .i64 v5.Gen, .int .i64 v5.End, .sl 5 0 v5.Items.length], 0⟩]) rfl rfl ?_
    refine RW.cond_t rfl (RW.sreg (rl.run 1 rfl (rl.done (RW.ret ?_))))
    cases h12
    exact RRet.mk rfl .bool (by first | decide | simp)
   ·have h13 := iteBT h11 hb
    refine rdraw.op rfl rfl (rdraw.done ?_)
    refine RW.keep [1, 2, 6, 7, 8, 35] (a' := [(1, .int .i64 x1), (2, .ptr 0 0), (6, .ptr 1 0), (7, .ptr 4 0), (8, .ptr 6 0), (35, .bool false)]) (H' := [some ⟨[.lst false 1 (fl (encS false) x0.Sectors) x0.Sectors.length, .lst false 2 (fl (enc_TWrite false) x0.Cache) x0.Cache.length], 0⟩, some ⟨[.int .i64 v3.No, .int .i64 v3.Gen, .int .i64 v3.End, .lst false 9 (fl (enc_TItem false) v3.Items) v3.Items.length], 0⟩, some ⟨fl (encS true) v4.Sectors, 1⟩, some ⟨fl (enc_TWrite true) v4.Cache, 2⟩, some ⟨[.sl 2 0 v4.Sectors.length, .sl 3 0 v4.Cache.length], 0⟩, some ⟨fl (enc_TItem true) v5.Items, 9⟩, some ⟨[.int .i64 v5.No, .int .i64 v5.Gen, .int .i64 v5.End, .sl 5 0 v5.Items.length], 0⟩]) rfl rfl ?_
    refine RW.cond_f rfl (RW.skip (RW.sreg (rl.run 1 rfl (rl.done (RW.sreg (rl.run 2 rfl ?_))))))
    obtain ⟨v9, e9, h14⟩ := bindS h13
    refine rl.call rfl rfl rfl (CallW.embW (r0 := .int .i64 v9.1) (H' := [some ⟨[.lst false 1 (fl (encS false) x0.Sectors) x0.Sectors.length, .lst false 2 (fl (enc_TWrite false) x0.Cache) x0.Cache.length], 0⟩, some ⟨[.int .i64 v3.No, .int .i64 v3.Gen, .int .i64 v3.End, .lst false 9 (fl (enc_TItem false) v3.Items) v3.Items.length], 0⟩, some ⟨fl (encS true) v9.2.1, 1⟩, some ⟨fl (enc_TWrite true) v9.2.2, 2⟩, some ⟨[.sl 2 0 v4.Sectors.length, .sl 3 0 v4.Cache.length], 0⟩, some ⟨fl (enc_TItem true) v5.Items, 9⟩, some ⟨[.int .i64 v5.No, .int .i64 v5.Gen, .int .i64 v5.End, .sl 5 0 v5.Items.length], 0⟩]) [⟨fl (encS true) v4.Sectors, 1⟩, ⟨fl (enc_TWrite true) v4.Cache, 2⟩] [⟨fl (encS true) v9.2.1, 1⟩, ⟨fl (enc_TWrite true) v9.2.2, 2⟩] [2, 3] ok_laws_markDisk (law_laws_markDisk_w (guardO_s e9)) (.cons rfl (ekS.fref _ _) (ekS.fown _) (.cons rfl (ek_TWrite.fref _ _) (ek_TWrite.fown _) .nil)) rfl (.cons (RnL.agg (.cons (.slq rfl rfl) (.cons (.slq rfl rfl) .nil))) (.cons (.dat .int) .nil)) .int rfl rfl ?_)
    refine rl.run 1 rfl (rl.done (RW.seq (RW.seq ?_)))
    obtain ⟨y10, ey10, h15⟩ := bindS h14
    refine RW.cutq (σ := Bool) (fun y10 => [(1, .int .i64 x1), (2, .ptr 0 0), (6, .ptr 1 0), (8, .ptr 2 0), (46, .bool y10)]) (fun y10 => [some ⟨[.lst false 1 (fl (encS false) x0.Sectors) x0.Sectors.length, .lst false 2 (fl (enc_TWrite false) x0.Cache) x0.Cache.length], 0⟩, some ⟨[.int .i64 v3.No, .int .i64 v3.Gen, .int .i64 v3.End, .lst false 9 (fl (enc_TItem false) v3.Items) v3.Items.length], 0⟩, some ⟨[.int .i64 v5.No, .int .i64 v5.Gen, .int .i64 v5.End, .sl 3 0 v5.Items.length], 0⟩, some ⟨fl (enc_TItem true) v5.Items, 9⟩]) (fun y => y10 = y) (fun _ _ _ _ g h => RW.gh g h) ?_ ?_
    ·refine RW.reg ?_
     refine rl.run 1 rfl ?_
     refine rl.gen rfl rfl fun b hb => ?_
     cases b
     ·have h16 := iteBF ey10 hb
      refine rl.run 3 rfl ?_
      obtain ⟨v11, e11, h17⟩ := bindS h16
      refine rl.call rfl rfl rfl (CallW.val (r' := .bool v11) ok_laws_eqSeg (law_laws_eqSeg e11) (.cons (DFL.agg (.cons .int (.cons .int (.cons .int (.cons (.slq ek_TItem rfl rfl) .nil))))) (.cons (DFL.agg (.cons .int (.cons .int (.cons .int (.cons (.lst ek_TItem) .nil))))) .nil)) .refl ?_)
      cases hb : v11
      ·have h18 := iteBF h17 hb
       refine rl.run 2 rfl (rl.done ?_)
       cases h18
       exact ⟨_, rfl, (Gh.ren0 [0, 1, 6, 5] (.cells rfl rfl (.keep (ekS.rlst) (.keep (ek_TWrite.rlst) .nil)) (.cells rfl rfl (.keep .int (.keep .int (.keep .int (.keep (ek_TItem.rlst) .nil)))) (.cells rfl rfl (.keep .int (.keep .int (.keep .int (.slq rfl rfl .nil)))) (.same rfl (ek_TItem.fref _ _) .nil)))) rfl (.cons rfl (.dat .int) (.cons rfl (.ptr rfl) (.cons rfl (.ptr rfl) (.cons rfl (.ptr rfl) (.cons rfl (.dat .bool) .nil))))))⟩
      ·have h19 := iteBT h17 hb
       refine rl.run 2 rfl (rl.done ?_)
       cases h19
       exact ⟨_, rfl, (Gh.ren0 [0, 1, 6, 5] (.cells rfl rfl (.keep (ekS.rlst) (.keep (ek_TWrite.rlst) .nil)) (.cells rfl rfl (.keep .int (.keep .int (.keep .int (.keep (ek_TItem.rlst) .nil)))) (.cells rfl rfl (.keep .int (.keep .int (.keep .int (.slq rfl rfl .nil)))) (.same rfl (ek_TItem.fref _ _) .nil)))) rfl (.cons rfl (.dat .int) (.cons rfl (.ptr rfl) (.cons rfl (.ptr rfl) (.cons rfl (.ptr rfl) (.cons rfl (.dat .bool) .nil))))))⟩
     ·have h20 := iteBT ey10 hb
      refine rl.run 6 rfl (rl.done ?_)
      cases h20
      exact ⟨_, rfl, (Gh.ren0 [0, 1, 6, 5] (.cells rfl rfl (.keep (ekS.rlst) (.keep (ek_TWrite.rlst) .nil)) (.cells rfl rfl (.keep .int (.keep .int (.keep .int (.keep (ek_TItem.rlst) .nil)))) (.cells rfl rfl (.keep .int (.keep .int (.keep .int (.slq rfl rfl .nil)))) (.same rfl (ek_TItem.fref _ _) .nil)))) rfl (.cons rfl (.dat .int) (.cons rfl (.ptr rfl) (.cons rfl (.ptr rfl) (.cons rfl (.ptr rfl) (.cons rfl (.dat .bool) .nil))))))⟩
    ·intro y hC
     subst hC
     cases hb : y10
     ·have h21 := iteBF h15 hb
      refine RW.cond_f rfl (RW.skip (RW.sreg (rl.run 1 rfl (rl.done (RW.sreg (rl.run 2 rfl ?_))))))
      obtain ⟨v12, e12, h22⟩ := bindS h21
      refine rl.call rfl rfl rfl (CallW.embW (r0 := .int .i64 v12.1) (H' := [some ⟨[.lst false 1 (fl (encS false) x0.Sectors) x0.Sectors.length, .lst false 2 (fl (enc_TWrite false) x0.Cache) x0.Cache.length], 0⟩, some ⟨[.int .i64 v3.No, .int .i64 v3.Gen, .int .i64 v3.End, .lst false 9 (fl (enc_TItem false) v3.Items) v3.Items.length], 0⟩, some ⟨[.int .i64 v5.No, .int .i64 v5.Gen, .int .i64 v5.End, .sl 3 0 v5.Items.length], 0⟩, some ⟨fl (enc_TItem true) v12.2, 9⟩]) [⟨fl (enc_TItem true) v5.Items, 9⟩] [⟨fl (enc_TItem true) v12.2, 9⟩] [3] ok_laws_markSeg (law_laws_markSeg_w (guardO_s e12)) (.cons rfl (ek_TItem.fref _ _) (ek_TItem.fown _) .nil) rfl (.cons (RnL.agg (.cons (.dat .int) (.cons (.dat .int) (.cons (.dat .int) (.cons (.slq rfl rfl) .nil))))) (.cons (.dat .int) .nil)) .int rfl rfl ?_)
      refine rl.run 1 rfl (rl.done (RW.sreg (rl.run 1 rfl (rl.done (RW.sreg (rl.run 2 rfl ?_))))))
      obtain ⟨v13, e13, h23⟩ := bindS h22
      refine rl.call rfl rfl rfl (CallW.val (r' := .int .i64 v13) ok_laws_heldSeg (law_laws_heldSeg e13) (.cons (DFL.agg (.cons .int (.cons .int (.cons .int (.cons (.slq ek_TItem rfl (guardO_p (p := fun r : Int × (List TItem) => v5.Items.length = r.2.length) e12)) .nil))))) (.cons .int .nil)) .refl ?_)
      refine rl.run 1 rfl (rl.done (RW.seq (RW.sreg (rl.run 1 rfl ?_))))
      refine rl.gen rfl rfl fun b hb => ?_
      cases b
      ·have h24 := iteBF h23 hb
       refine rl.done (RW.cond_f rfl (RW.skip (RW.seq (RW.sreg (rl.run 2 rfl ?_)))))
       refine rl.gen rfl rfl fun b hb => ?_
       cases b
       ·have h25 := iteBF h24 hb
        refine rl.done ?_
        refine RW.keep [1, 2, 6, 8, 10, 57] (a' := [(1, .int .i64 x1), (2, .ptr 0 0), (6, .ptr 1 0), (8, .ptr 2 0), (10, .int .i64 v12.1), (57, .bool false)]) (H' := [some ⟨[.lst false 1 (fl (encS false) x0.Sectors) x0.Sectors.length, .lst false 2 (fl (enc_TWrite false) x0.Cache) x0.Cache.length], 0⟩, some ⟨[.int .i64 v3.No, .int .i64 v3.Gen, .int .i64 v3.End, .lst false 9 (fl (enc_TItem false) v3.Items) v3.Items.length], 0⟩, some ⟨[.int .i64 v5.No, .int .i64 v5.Gen, .int .i64 v5.End, .sl 3 0 v5.Items.length], 0⟩, some ⟨fl (enc_TItem true) v12.2, 9⟩]) rfl rfl ?_
        refine RW.cond_f rfl (RW.skip (RW.sreg (rl.run 1 rfl ?_)))
        obtain ⟨v14, e14, h26⟩ := bindS h25
        refine rl.call rfl rfl rfl (CallW.val (r' := .agg (enc_TDisk false v14)) ok_laws_toDisk (law_laws_toDisk e14) (.cons (DFL.agg (.cons (.lst ekS) (.cons (.lst ek_TWrite) .nil))) .nil) (ek_TDisk.flag _).agg ?_)
        refine rl.run 1 rfl ?_
        obtain ⟨v15, e15, h27⟩ := bindS h26
        refine rl.call rfl rfl rfl (CallW.val (r' := .agg (enc_TSeg false v15)) ok_impl_SegOf (law_impl_SegOf e15) (.cons (.dat (.agg (ek_TDisk.dat false _))) (.cons .int .nil)) (ek_TSeg.flag _).agg ?_)
        refine rl.run 2 rfl (rl.done (RW.seq (RW.sreg (rl.run 2 rfl ?_))))
        obtain ⟨v16, e16, h28⟩ := bindS h27
        refine rl.call rfl rfl rfl (CallW.val (r' := .bool v16) ok_laws_eqSeg (law_laws_eqSeg e16) (.cons (DFL.agg (.cons .int (.cons .int (.cons .int (.cons (.lst ek_TItem) .nil))))) (.cons (DFL.agg (.cons .int (.cons .int (.cons .int (.cons (.lst ek_TItem) .nil))))) .nil)) .refl ?_)
        cases hb : v16
        ·have h29 := iteBF h28 hb
         refine rl.run 1 rfl (rl.done ?_)
         refine RW.keep [8, 10, 65] (a' := [(8, .ptr 2 0), (10, .int .i64 v12.1), (65, .bool true)]) (H' := [some ⟨[.lst false 1 (fl (encS false) x0.Sectors) x0.Sectors.length, .lst false 2 (fl (enc_TWrite false) x0.Cache) x0.Cache.length], 0⟩, some ⟨[.int .i64 v3.No, .int .i64 v3.Gen, .int .i64 v3.End, .lst false 9 (fl (enc_TItem false) v3.Items) v3.Items.length], 0⟩, some ⟨[.int .i64 v5.No, .int .i64 v5.Gen, .int .i64 v5.End, .sl 3 0 v5.Items.length], 0⟩, some ⟨fl (enc_TItem true) v12.2, 9⟩, some ⟨[.int .i64 v15.No, .int .i64 v15.Gen, .int .i64 v15.End, .lst false 9 (fl (enc_TItem false) v15.Items) v15.Items.length], 0⟩]) rfl rfl ?_
         refine RW.cond_t rfl (RW.sreg (rl.run 1 rfl (rl.done (RW.ret ?_))))
         cases h29
         exact RRet.mk rfl .bool (by first | decide | simp)
        ·have h30 := iteBT h28 hb
         refine rl.run 1 rfl (rl.done ?_)
         refine RW.keep [8, 10, 65] (a' := [(8, .ptr 2 0), (10, .int .i64 v12.1), (65, .bool false)]) (H' := [some ⟨[.lst false 1 (fl (encS false) x0.Sectors) x0.Sectors.length, .lst false 2 (fl (enc_TWrite false) x0.Cache) x0.Cache.length], 0⟩, some ⟨[.int .i64 v3.No, .int .i64 v3.Gen, .int .i64 v3.End, .lst false 9 (fl (enc_TItem false) v3.Items) v3.Items.length], 0⟩, some ⟨[.int .i64 v5.No, .int .i64 v5.Gen, .int .i64 v5.End, .sl 3 0 v5.Items.length], 0⟩, some ⟨fl (enc_TItem true) v12.2, 9⟩, some ⟨[.int .i64 v15.No, .int .i64 v15.Gen, .int .i64 v15.End, .lst false 9 (fl (enc_TItem false) v15.Items) v15.Items.length], 0⟩]) rfl rfl ?_
         refine RW.cond_f rfl (RW.skip (RW.sreg (rl.run 1 rfl (rl.done (RW.sreg (rl.run 2 rfl ?_))))))
         obtain ⟨v17, e17, h31⟩ := bindS h30
         refine rl.call rfl rfl rfl (CallW.val (r' := .int .i64 v17) ok_laws_heldSeg (law_laws_heldSeg e17) (.cons (DFL.agg (.cons .int (.cons .int (.cons .int (.cons (.slq ek_TItem rfl (guardO_p (p := fun r : Int × (List TItem) => v5.Items.length = r.2.length) e12)) .nil))))) (.cons .int .nil)) .refl ?_)
         refine rl.run 1 rfl (rl.done (RW.seq (RW.sreg (rl.run 1 rfl ?_))))
         refine rl.gen rfl rfl fun b hb => ?_
         cases b
         ·have h32 := iteBF h31 hb
          refine rl.done (RW.cond_f rfl (RW.skip (RW.seq (RW.sreg (rl.run 2 rfl ?_)))))
          refine rl.gen rfl rfl fun b hb => ?_
          cases b
          ·have h33 := iteBF h32 hb
           refine rl.done ?_
           refine RW.keep [73] (a' := [(73, .bool false)]) (H' := [some ⟨[.lst false 1 (fl (encS false) x0.Sectors) x0.Sectors.length, .lst false 2 (fl (enc_TWrite false) x0.Cache) x0.Cache.length], 0⟩, some ⟨[.int .i64 v3.No, .int .i64 v3.Gen, .int .i64 v3.End, .lst false 9 (fl (enc_TItem false) v3.Items) v3.Items.length], 0⟩, some ⟨[.int .i64 v5.No, .int .i64 v5.Gen, .int .i64 v5.End, .sl 3 0 v5.Items.length], 0⟩, some ⟨fl (enc_TItem true) v12.2, 9⟩, some ⟨[.int .i64 v15.No, .int .i64 v15.Gen, .int .i64 v15.End, .lst false 9 (fl (enc_TItem false) v15.Items) v15.Items.length], 0⟩]) rfl rfl ?_
           refine RW.cond_f rfl (RW.skip (RW.sreg (rl.run 1 rfl (rl.done (RW.ret ?_)))))
           cases h33
           exact RRet.mk rfl .bool (by first | decide | simp)
          ·have h34 := iteBT h32 hb
           refine rl.done ?_
           refine RW.keep [73] (a' := [(73, .bool true)]) (H' := [some ⟨[.lst false 1 (fl (encS false) x0.Sectors) x0.Sectors.length, .lst false 2 (fl (enc_TWrite false) x0.Cache) x0.Cache.length], 0⟩, some ⟨[.int .i64 v3.No, .int .i64 v3.Gen, .int .i64 v3.End, .lst false 9 (fl (enc_TItem false) v3.Items) v3.Items.length], 0⟩, some ⟨[.int .i64 v5.No, .int .i64 v5.Gen, .int .i64 v5.End, .sl 3 0 v5.Items.length], 0⟩, some ⟨fl (enc_TItem true) v12.2, 9⟩, some ⟨[.int .i64 v15.No, .int .i64 v15.Gen, .int .i64 v15.End, .lst false 9 (fl (enc_TItem false) v15.Items) v15.Items.length], 0⟩]) rfl rfl ?_
           refine RW.cond_t rfl (RW.sreg (rl.run 1 rfl (rl.done (RW.ret ?_))))
           cases h34
           exact RRet.mk rfl .bool (by first | decide | simp)
         ·have h35 := iteBT h31 hb
          refine rl.done (RW.cond_t rfl (RW.sreg (rl.run 1 rfl (rl.done (RW.ret ?_)))))
          cases h35
          exact RRet.mk rfl .bool (by first | decide | simp)
       ·have h36 := iteBT h24 hb
        refine rl.done ?_
        refine RW.keep [1, 2, 6, 8, 10, 57] (a' := [(1, .int .i64 x1), (2, .ptr 0 0), (6, .ptr 1 0), (8, .ptr 2 0), (10, .int .i64 v12.1), (57, .bool true)]) (H' := [some ⟨[.lst false 1 (fl (encS false) x0.Sectors) x0.Sectors.length, .lst false 2 (fl (enc_TWrite false) x0.Cache) x0.Cache.length], 0⟩, some ⟨[.int .i64 v3.No, .int .i64 v3.Gen, .int .i64 v3.End, .lst false 9 (fl (enc_TItem false) v3.Items) v3.Items.length], 0⟩, some ⟨[.int .i64 v5.No, .int .i64 v5.Gen, .int .i64 v5.End, .sl 3 0 v5.Items.length], 0⟩, some ⟨fl (enc_TItem true) v12.2, 9⟩]) rfl rfl ?_
        refine RW.cond_t rfl (RW.sreg (rl.run 1 rfl (rl.done (RW.ret ?_))))
        cases h36
        exact RRet.mk rfl .bool (by first | decide | simp)
      ·have h37 := iteBT h23 hb
       refine rl.done (RW.cond_t rfl (RW.sreg (rl.run 1 rfl (rl.done ?_))))
       refine RW.keep [4] (a' := [(4, .bool false)]) (H' := [some ⟨[.lst false 1 (fl (encS false) x0.Sectors) x0.Sectors.length, .lst false 2 (fl (enc_TWrite false) x0.Cache) x0.Cache.length], 0⟩, some ⟨[.int .i64 v3.No, .int .i64 v3.Gen, .int .i64 v3.End, .lst false 9 (fl (enc_TItem false) v3.Items) v3.Items.length], 0⟩, some ⟨[.int .i64 v5.No, .int .i64 v5.Gen, .int .i64 v5.End, .sl 3 0 v5.Items.length], 0⟩, some ⟨fl (enc_TItem true) v12.2, 9⟩]) rfl rfl ?_
       refine RW.ret ?_
       cases h37
       exact RRet.mk rfl .bool (by first | decide | simp)
     ·have h38 := iteBT h15 hb
      refine RW.cond_t rfl (RW.sreg (rl.run 1 rfl (rl.done (RW.ret ?_))))
      cases h38
      exact RRet.mk rfl .bool (by first | decide | simp)
 ·have h39 := iteBT h1 hb
  refine rl.done (RW.cond_t rfl (RW.sreg (rl.run 1 rfl (rl.done (RW.ret ?_)))))
  cases h39
  exact RRet.mk rfl .bool (by first | decide | simp)
end Go.Proofs.Ytgdcbjoaoagbpaa.V
