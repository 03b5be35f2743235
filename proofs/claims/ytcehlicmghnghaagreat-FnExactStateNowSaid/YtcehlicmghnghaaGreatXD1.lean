/- What a call comes to. -/
import Derived.Test.YtcehlicmghnghaaGreatXD0
namespace Go.Proofs.YtcehlicmghnghaaGreat.V
open Go Go.Proofs Go.RowKit
set_option maxRecDepth 100000
set_option maxHeartbeats 2000000 in
theorem law_spec_StateOf {x0 : List TItem} {r : TState} (hF : F_spec_StateOf x0 = some r) : PCalls Tryz.prog 49 [.lst false 9 (fl (enc_TItem false) x0) x0.length] (.agg (enc_TState true r)) := by
 refine PCalls.of_r k_spec_StateOf rfl ?_
 unfold F_spec_StateOf at hF
 refine RW.sreg (rl.run 1 rfl (rl.done (RW.sreg (rl.run 3 rfl (rl.done (RW.seq (RW.sreg (rl.run 1 rfl ?_))))))))
 obtain ⟨v1, e1, h1⟩ := bindS hF
 refine rl.call rfl rfl rfl (CallW.val (r' := .bool v1) ok_spec_ItemsOk (law_spec_ItemsOk e1) (.cons (.lst ek_TItem) .nil) .refl ?_)
 cases hb : v1
 ·have h2 := iteBF h1 hb
  refine rl.run 1 rfl (rl.done (RW.cond_t rfl (RW.sreg (rl.run 2 rfl (rl.done (RW.ret ?_))))))
  cases h2
  exact RRet.mk rfl (OutL.agg (.cons (OutR.nil (enc := enc_TBox)) rfl .nil)) (by first | decide | simp)
 ·have h3 := iteBT h1 hb
  refine rl.run 1 rfl (rl.done (RW.cond_f rfl (RW.skip (RW.sreg (rl.run 2 rfl (rl.done (RW.seq (RW.sreg (rl.run 1 rfl (rl.done ?_))))))))))
  refine RW.gh (Gh.nil_t 4 1 rfl) ?_
  obtain ⟨y7, ey7, h5⟩ := bindS h3
  refine RW.cutq (σ := (List Int)) (fun y3 => [(0, .lst false 9 (fl (enc_TItem false) x0) x0.length), (2, .ptr 0 0), (3, .ptr 1 0), (4, .sl 2 0 y3.length)]) (fun y3 => [some ⟨[.nils], 0⟩, some ⟨[.nils], 0⟩, some ⟨fl (encI true) y3, 1⟩]) (fun y => y7 = y) (fun _ _ _ _ g h => RW.gh g h) ?_ ?_
  ·refine RW.blk ?_
   refine RW.iter (σ := Int × (List Int)) ey7 (fun s2 => [(0, .lst false 9 (fl (enc_TItem false) x0) x0.length), (2, .ptr 0 0), (3, .ptr 1 0), (4, .sl 2 0 s2.2.length), (5, .int .i64 s2.1)]) (fun s2 => [some ⟨[.nils], 0⟩, some ⟨[.nils], 0⟩, some ⟨fl (encI true) s2.2, 1⟩]) (Gh.ren0 [0, 1, 2] (.cells rfl rfl (.keep .nils .nil) (.cells rfl rfl (.keep .nils .nil) (.same rfl (ekI.fref _ _) .nil))) rfl (.cons rfl (.dat (ek_TItem.rlst)) (.cons rfl (.ptr rfl) (.cons rfl (.ptr rfl) (.cons rfl (.slq rfl rfl) (.cons rfl (.dat .int) .nil)))))) (fun s2 B o hS4 hB4 hE4 => ?_)
   unfold S_spec_StateOf_1 at hS4
   refine RW.seq (RW.sreg (rl.run 3 rfl ?_))
   refine rl.gen rfl rfl fun b hb => ?_
   cases b
   ·have h6 := iteBF hS4 hb
    refine rl.done (RW.cond_f rfl (RW.exit (blkA_eq ?_)))
    cases h6
    exact ⟨_, (hE4 _ rfl).symm, (Gh.ren0 [0, 1, 2] (.cells rfl rfl (.keep .nils .nil) (.cells rfl rfl (.keep .nils .nil) (.same rfl (ekI.fref _ _) .nil))) rfl (.cons rfl (.dat (ek_TItem.rlst)) (.cons rfl (.ptr rfl) (.cons rfl (.ptr rfl) (.cons rfl (.slq rfl rfl) .nil)))))⟩
   ·have h7 := iteBT hS4 hb
    refine rl.done (RW.cond_t rfl (RW.skip (RW.seq (RW.blk (RW.sreg (rl.run 2 rfl ?_))))))
    obtain ⟨v4, e4, h8⟩ := bindS h7
    refine rl.op (x_ia_lst (enc := enc_TItem) (o := false) rfl rfl rfl e4) ?_
    refine rl.run 1 rfl ?_
    refine rl.op (x_ld_ela (off' := 1) (vs := (enc_TRec false v4.Rec)) ek_TItem rfl e4 rfl rfl rfl) ?_
    refine rl.run 2 rfl (rl.done (RW.sreg (rl.run 3 rfl ?_)))
    obtain ⟨v5, e5, h9⟩ := bindS h8
    refine rl.call rfl rfl rfl (CallW.val (r' := .tup [.agg (enc_TItem false v5.1), .bool v5.2]) ok_spec_l07Best (law_spec_l07Best e5) (.cons (.lst ek_TItem) (.cons .int (.cons .int (.cons .int .nil)))) (FlL.tup (.cons .refl (.cons .refl .nil))) ?_)
    refine rl.run 6 rfl (rl.done ?_)
    refine RW.keep [0, 2, 3, 4, 5, 6, 8] (a' := [(0, .lst false 9 (fl (enc_TItem false) x0) x0.length), (2, .ptr 0 0), (3, .ptr 1 0), (4, .sl 2 0 s2.2.length), (5, .int .i64 s2.1), (6, .ptr 3 0), (8, .bool v5.2)]) (H' := [some ⟨[.nils], 0⟩, some ⟨[.nils], 0⟩, some ⟨fl (encI true) s2.2, 1⟩, some ⟨[.int .i64 v4.Rec.Kind, .int .i64 v4.Rec.Valid, .int .i64 v4.Rec.Uid, .int .i64 v4.Rec.Next, .int .i64 v4.Rec.Flags, .str v4.Rec.User, .str v4.Rec.Name, .str v4.Rec.Text], 0⟩, some ⟨[.int .i64 v5.1.Seq, .int .i64 v5.1.Rec.Kind, .int .i64 v5.1.Rec.Valid, .int .i64 v5.1.Rec.Uid, .int .i64 v5.1.Rec.Next, .int .i64 v5.1.Rec.Flags, .str v5.1.Rec.User, .str v5.1.Rec.Name, .str v5.1.Rec.Text], 0⟩]) rfl rfl ?_
    refine RW.sreg (rl.run 2 rfl ?_)
    refine rl.gen rfl rfl fun b hb => ?_
    cases b
    ·have h10 := iteBF h9 hb
     refine rl.run 4 rfl (rl.done (RW.cond_f rfl (RW.skip (RW.reg (rl.run 3 rfl (rl.done ?_))))))
     cases h10
     exact hB4 _ rfl _ _ (Gh.ren0 [0, 1, 2] (.cells rfl rfl (.keep .nils .nil) (.cells rfl rfl (.keep .nils .nil) (.same rfl (ekI.fref _ _) .nil))) rfl (.cons rfl (.dat (ek_TItem.rlst)) (.cons rfl (.ptr rfl) (.cons rfl (.ptr rfl) (.cons rfl (.slq rfl rfl) (.cons rfl (.dat .int) .nil))))))
    ·have h11 := iteBT h9 hb
     refine rl.run 4 rfl (rl.done ?_)
     cases hb : (!v5.2)
     ·have h12 := iteBF h11 hb
      refine RW.cond_f rfl (RW.skip (RW.reg (rl.run 3 rfl (rl.done ?_))))
      cases h12
      exact hB4 _ rfl _ _ (Gh.ren0 [0, 1, 2] (.cells rfl rfl (.keep .nils .nil) (.cells rfl rfl (.keep .nils .nil) (.same rfl (ekI.fref _ _) .nil))) rfl (.cons rfl (.dat (ek_TItem.rlst)) (.cons rfl (.ptr rfl) (.cons rfl (.ptr rfl) (.cons rfl (.slq rfl rfl) (.cons rfl (.dat .int) .nil))))))
     ·have h13 := iteBT h11 hb
      refine RW.cond_t rfl (RW.reg (rl.run 3 rfl ?_))
      obtain ⟨v6, e6, h14⟩ := bindS h13
      refine rl.call rfl rfl rfl (CallW.own (r' := .sl 5 0 v6.length) (H' := [some ⟨[.nils], 0⟩, some ⟨[.nils], 0⟩, some ⟨fl (encI true) s2.2, 1⟩, some ⟨[.int .i64 v4.Rec.Kind, .int .i64 v4.Rec.Valid, .int .i64 v4.Rec.Uid, .int .i64 v4.Rec.Next, .int .i64 v4.Rec.Flags, .str v4.Rec.User, .str v4.Rec.Name, .str v4.Rec.Text], 0⟩, some ⟨[.int .i64 v5.1.Seq, .int .i64 v5.1.Rec.Kind, .int .i64 v5.1.Rec.Valid, .int .i64 v5.1.Rec.Uid, .int .i64 v5.1.Rec.Next, .int .i64 v5.1.Rec.Flags, .str v5.1.Rec.User, .str v5.1.Rec.Name, .str v5.1.Rec.Text], 0⟩, some ⟨fl (encI true) v6, 1⟩]) ok_spec_l07Sorted (law_spec_l07Sorted e6) (.cons (.slq ekI rfl rfl) (.cons .int .nil)) (.lst (ekI.fown _)) rfl ?_)
      refine rl.run 1 rfl (rl.done (RW.reg (rl.run 3 rfl (rl.done ?_))))
      cases h14
      exact hB4 _ rfl _ _ (Gh.ren0 [0, 1, 5] (.cells rfl rfl (.keep .nils .nil) (.cells rfl rfl (.keep .nils .nil) (.same rfl (ekI.fref _ _) .nil))) rfl (.cons rfl (.dat (ek_TItem.rlst)) (.cons rfl (.ptr rfl) (.cons rfl (.ptr rfl) (.cons rfl (.slq rfl rfl) (.cons rfl (.dat .int) .nil))))))
  ·intro y3 hC
   subst hC
   refine RW.seq (RW.sreg (rl.run 1 rfl (rl.done ?_)))
   refine RW.gh (Gh.nil_c 1 0 5 rfl rfl) ?_
   obtain ⟨y18, ey18, h16⟩ := bindS h5
   refine RW.cutq (σ := (List TBox)) (fun y9 => [(2, .ptr 0 0), (3, .ptr 1 0)]) (fun y9 => [some ⟨[.nils], 0⟩, some ⟨[.sl 2 0 y9.length], 0⟩, some ⟨fl (enc_TBox true) y9, 5⟩]) (fun y => y18 = y) (fun _ _ _ _ g h => RW.gh g h) ?_ ?_
   ·refine RW.blk ?_
    refine RW.iter (σ := Int × (List TBox)) ey18 (fun s8 => [(0, .lst false 9 (fl (enc_TItem false) x0) x0.length), (2, .ptr 0 0), (3, .ptr 1 0), (4, .sl 2 0 y7.length), (9, .int .i64 s8.1)]) (fun s8 => [some ⟨[.nils], 0⟩, some ⟨[.sl 3 0 s8.2.length], 0⟩, some ⟨fl (encI true) y7, 1⟩, some ⟨fl (enc_TBox true) s8.2, 5⟩]) (Gh.ren0 [0, 1, 2, 3] (.cells rfl rfl (.keep .nils .nil) (.cells rfl rfl (.slq rfl rfl .nil) (.same rfl (ekI.fref _ _) (.same rfl (ek_TBox.fref _ _) .nil)))) rfl (.cons rfl (.dat (ek_TItem.rlst)) (.cons rfl (.ptr rfl) (.cons rfl (.ptr rfl) (.cons rfl (.slq rfl rfl) (.cons rfl (.dat .int) .nil)))))) (fun s8 B o hS15 hB15 hE15 => ?_)
    unfold S_spec_StateOf_2 at hS15
    refine RW.seq (RW.sreg (rl.run 3 rfl ?_))
    refine rl.gen rfl rfl fun b hb => ?_
    cases b
    ·have h17 := iteBF hS15 hb
     refine rl.done (RW.cond_f rfl (RW.exit (blkA_eq ?_)))
     cases h17
     exact ⟨_, (hE15 _ rfl).symm, (Gh.ren0 [0, 1, 3] (.cells rfl rfl (.keep .nils .nil) (.cells rfl rfl (.slq rfl rfl .nil) (.same rfl (ek_TBox.fref _ _) .nil))) rfl (.cons rfl (.ptr rfl) (.cons rfl (.ptr rfl) .nil)))⟩
    ·have h18 := iteBT hS15 hb
     refine rl.done (RW.cond_t rfl (RW.skip (RW.seq (RW.blk (RW.sreg (rl.run 3 rfl ?_))))))
     obtain ⟨v10, e10, h19⟩ := bindS h18
     refine rl.op (x_ia_sl rfl rfl rfl rfl e10) ?_
     refine rl.op (x_ld_sl (off' := 0) ekI rfl rfl e10 rfl rfl rfl) ?_
     obtain ⟨v11, e11, h20⟩ := bindS h19
     refine rl.call rfl rfl rfl (CallW.val (r' := .agg (enc_TItem false v11)) ok_spec_l07Tell (law_spec_l07Tell e11) (.cons (.lst ek_TItem) (.cons .int .nil)) .refl ?_)
     refine rl.run 2 rfl (rl.done (RW.drw (rdraw.op rfl rfl (rdraw.op rfl rfl (rdraw.op rfl rfl (rdraw.op rfl rfl ?_))))))
     obtain ⟨v12, e12, h21⟩ := bindS h20
     refine rdraw.op rfl (x_ia_sl rfl rfl rfl rfl e12) ?_
     refine rdraw.op rfl (x_ld_sl (off' := 0) ekI rfl rfl e12 rfl rfl rfl) ?_
     refine rdraw.op rfl rfl (rdraw.op rfl rfl (rdraw.op rfl rfl (rdraw.op rfl rfl (rdraw.op rfl rfl (rdraw.op rfl rfl (rdraw.op rfl rfl (rdraw.op rfl rfl (rdraw.op rfl rfl ?_))))))))
     obtain ⟨v13, e13, h22⟩ := bindS h21
     refine rdraw.op rfl (x_ia_sl rfl rfl rfl rfl e13) ?_
     refine rdraw.op rfl (x_ld_sl (off' := 0) ekI rfl rfl e13 rfl rfl rfl) ?_
     obtain ⟨v14, e14, h23⟩ := bindS h22
     refine rdraw.call rfl rfl rfl (CallW.val (r' := .int .i64 v14) ok_spec_l07Next (law_spec_l07Next e14) (.cons (.lst ek_TItem) (.cons .int .nil)) .refl ⟨rfl, ?_⟩)
     refine rdraw.op rfl rfl (rdraw.op rfl rfl (rdraw.op rfl rfl ?_))
     obtain ⟨v15, e15, h24⟩ := bindS h23
     refine rdraw.op rfl (x_ia_sl rfl rfl rfl rfl e15) ?_
     refine rdraw.op rfl (x_ld_sl (off' := 0) ekI rfl rfl e15 rfl rfl rfl) ?_
     obtain ⟨v16, e16, h25⟩ := bindS h24
     refine rdraw.ccallB rfl rfl rfl (CallW.own (r' := .sl 5 0 v16.length) (H' := [some ⟨[.nils], 0⟩, some ⟨[.sl 3 0 s8.2.length], 0⟩, some ⟨fl (encI true) y7, 1⟩, some ⟨fl (enc_TBox true) s8.2, 5⟩, some ⟨[.int .i64 v11.Seq, .int .i64 v11.Rec.Kind, .int .i64 v11.Rec.Valid, .int .i64 v11.Rec.Uid, .int .i64 v11.Rec.Next, .int .i64 v11.Rec.Flags, .str v11.Rec.User, .str v11.Rec.Name, .str v11.Rec.Text], 0⟩, some ⟨fl (enc_TMail true) v16, 3⟩]) ok_spec_l07Mails (law_spec_l07Mails e16) (.cons (.lst ek_TItem) (.cons .int .nil)) (.lst (ek_TMail.fown _)) rfl ⟨(.skip rfl (.skip rfl (.skip rfl (.skip rfl (.skip rfl (.skip rfl (.skip rfl (.skip rfl (.skip rfl (.skip rfl (.skip rfl (.here (.rx rfl) (.here (.rx rfl) (.here (.rx rfl) (.here (.rx rfl) (.here (.rx rfl) (.here (.rx rfl) (.here (.rx (x_ld_sl (off' := 0) ekI rfl rfl e12 rfl rfl rfl)) (.here (.rx (x_ia_sl rfl rfl rfl rfl e12)) (.here (.rx rfl) (.here (.rx rfl) (.here (.rx rfl) (.here (.rx rfl) .nil))))))))))))))))))))))), ?_⟩)
     refine rdraw.op rfl rfl ?_
     refine rdraw.chnB rfl rfl (.skip rfl (.skip rfl (.skip rfl (.skip rfl (.skip rfl (.skip rfl (.skip rfl (.skip rfl (.skip rfl (.skip rfl (.skip rfl (.skip rfl (.skip rfl (.skip rfl (.skip rfl (.skip rfl (.skip rfl (.skip rfl (.skip rfl (.skip rfl (.skip rfl (.skip rfl (.here (.rx rfl) (.here (.rx rfl) .nil)))))))))))))))))))))))) ?_
     obtain ⟨v17, e17, h26⟩ := bindS h25
     refine rdraw.chn rfl (x_app rfl rfl (rapp_raw ek_TBox rfl rfl (acont_one rfl rfl rfl) e17)) ?_
     refine rdraw.op rfl rfl ?_
     refine rdraw.chn rfl rfl ?_
     refine rdraw.done ?_
     refine RW.gh (Gh.absorb_rawq (b := 7) (j := 4) (m := 5) rfl rfl rfl (by decide) (by decide) rfl (ek_TMail.flen true _) (ek_TMail.fown _)) ?_
     refine RW.gh (Gh.blk (b := 7) rfl (raw_app (enc := enc_TBox) e17 rfl)) ?_
     refine RW.reg (rl.run 3 rfl (rl.done ?_))
     cases h26
     exact hB15 _ rfl _ _ (Gh.ren0 [0, 1, 2, 7] (.cells rfl rfl (.keep .nils .nil) (.cells rfl rfl (.slq rfl rfl .nil) (.same rfl (ekI.fref _ _) (.same rfl (ek_TBox.fref _ _) .nil)))) rfl (.cons rfl (.dat (ek_TItem.rlst)) (.cons rfl (.ptr rfl) (.cons rfl (.ptr rfl) (.cons rfl (.slq rfl rfl) (.cons rfl (.dat .int) .nil))))))
   ·intro y9 hC
    subst hC
    refine RW.sreg (rl.run 2 rfl (rl.done (RW.ret ?_)))
    cases h16
    exact RRet.mk rfl (OutL.agg (.cons (OutR.ownq ek_TBox rfl rfl) rfl .nil)) (by first | decide | simp)
theorem law_spec_ItemsOf {x0 : TLog} {r : List TItem} (hF : F_spec_ItemsOf x0 = some r) : PCalls Tryz.prog 50 [.agg (enc_TLog false x0)] (.lst true 9 (fl (enc_TItem true) r) r.length) := by
 refine PCalls.of_r k_spec_ItemsOf rfl ?_
 unfold F_spec_ItemsOf at hF
 refine RW.sreg (rl.run 2 rfl (rl.done (RW.sreg (rl.run 2 rfl (rl.done (RW.seq (RW.sreg (rl.run 1 rfl (rl.done ?_)))))))))
 refine RW.gh (Gh.nil_t 3 9 rfl) ?_
 obtain ⟨y5, ey5, h2⟩ := bindS hF
 refine RW.cutq (σ := (List TItem)) (fun y2 => [(3, .sl 0 0 y2.length)]) (fun y2 => [some ⟨fl (enc_TItem true) y2, 9⟩]) (fun y => y5 = y) (fun _ _ _ _ g h => RW.gh g h) ?_ ?_
 ·refine RW.blk ?_
  refine RW.iter (σ := Int × (List TItem)) ey5 (fun s1 => [(1, .ptr 0 0), (3, .sl 1 0 s1.2.length), (4, .int .i64 s1.1)]) (fun s1 => [some ⟨[.lst false 1 (fl (encS false) x0.Disk.Sectors) x0.Disk.Sectors.length, .lst false 2 (fl (enc_TWrite false) x0.Disk.Cache) x0.Disk.Cache.length, .int .i64 x0.Segs, .lst false 4 (fl (enc_TSeg false) x0.Used) x0.Used.length, .int .i64 x0.NextGen, .int .i64 x0.NextSeq, .int .i64 x0.Stamp, .int .i64 x0.NextValid], 0⟩, some ⟨fl (enc_TItem true) s1.2, 9⟩]) (Gh.ren0 [0, 1] (.cells rfl rfl (.keep (ekS.rlst) (.keep (ek_TWrite.rlst) (.keep .int (.keep (ek_TSeg.rlst) (.keep .int (.keep .int (.keep .int (.keep .int .nil)))))))) (.same rfl (ek_TItem.fref _ _) .nil)) rfl (.cons rfl (.ptr rfl) (.cons rfl (.slq rfl rfl) (.cons rfl (.dat .int) .nil)))) (fun s1 B o hS1 hB1 hE1 => ?_)
  unfold S_spec_ItemsOf_1 at hS1
  refine RW.seq (RW.sreg (rl.run 4 rfl ?_))
  refine rl.gen rfl rfl fun b hb => ?_
  cases b
  ·have h3 := iteBF hS1 hb
   refine rl.done (RW.cond_f rfl (RW.exit (blkA_eq ?_)))
   cases h3
   exact ⟨_, (hE1 _ rfl).symm, (Gh.ren0 [1] (.same rfl (ek_TItem.fref _ _) .nil) rfl (.cons rfl (.slq rfl rfl) .nil))⟩
  ·have h4 := iteBT hS1 hb
   refine rl.done (RW.cond_t rfl (RW.skip (RW.seq (RW.blk (RW.reg (rl.run 4 rfl ?_))))))
   obtain ⟨v3, e3, h5⟩ := bindS h4
   refine rl.op (x_ia_lst (enc := enc_TSeg) (o := false) rfl rfl rfl e3) ?_
   refine rl.run 1 rfl ?_
   refine rl.op (x_ld_el (off' := 3) ek_TSeg rfl e3 rfl rfl rfl) ?_
   obtain ⟨v4, e4, h6⟩ := bindS h5
   refine rl.op (x_app rfl rfl (rapp_sl (l := s1.2) (m := v3.Items) (o := true) ek_TItem rfl rfl acont_lst rfl (fk_TItem.fst _ _) e4)) ?_
   refine rl.run 1 rfl (rl.done (RW.reg (rl.run 3 rfl (rl.done ?_))))
   cases h6
   exact hB1 _ rfl _ _ (Gh.ren0 [0, 2] (.cells rfl rfl (.keep (ekS.rlst) (.keep (ek_TWrite.rlst) (.keep .int (.keep (ek_TSeg.rlst) (.keep .int (.keep .int (.keep .int (.keep .int .nil)))))))) (.same rfl (ek_TItem.fref _ _) .nil)) rfl (.cons rfl (.ptr rfl) (.cons rfl (.slq rfl rfl) (.cons rfl (.dat .int) .nil))))
 ·intro y2 hC
  subst hC
  refine RW.sreg (rl.run 2 rfl (rl.done (RW.ret ?_)))
  cases h2
  exact RRet.mk rfl (OutR.ownq ek_TItem rfl rfl) (by first | decide | simp)
theorem law_spec_StateNow {x0 : TStore} {r : TState} (hF : F_spec_StateNow x0 = some r) : PCalls Tryz.prog 18 [.agg (enc_TStore false x0)] (.agg (enc_TState true r)) := by
 refine PCalls.of_r k_spec_StateNow rfl ?_
 unfold F_spec_StateNow at hF
 refine RW.sreg (rl.run 2 rfl (rl.done (RW.sreg (rl.run 2 rfl ?_))))
 obtain ⟨v1, e1, h1⟩ := bindS hF
 refine rl.call rfl rfl rfl (CallW.val (r' := .lst false 9 (fl (enc_TItem false) v1) v1.length) ok_spec_ItemsOf (law_spec_ItemsOf e1) (.cons (DFL.agg (.cons (.lst ekS) (.cons (.lst ek_TWrite) (.cons .int (.cons (.lst ek_TSeg) (.cons .int (.cons .int (.cons .int (.cons .int .nil))))))))) .nil) (ek_TItem.fflag _).lst ?_)
 obtain ⟨v2, e2, h2⟩ := bindS h1
 refine rl.call rfl rfl rfl (CallW.own (r' := .agg [.sl 2 0 v2.Boxes.length]) (H' := [some ⟨[.lst false 1 (fl (encS false) x0.Log.Disk.Sectors) x0.Log.Disk.Sectors.length, .lst false 2 (fl (enc_TWrite false) x0.Log.Disk.Cache) x0.Log.Disk.Cache.length, .int .i64 x0.Log.Segs, .lst false 4 (fl (enc_TSeg false) x0.Log.Used) x0.Log.Used.length, .int .i64 x0.Log.NextGen, .int .i64 x0.Log.NextSeq, .int .i64 x0.Log.Stamp, .int .i64 x0.Log.NextValid, .lst false 1 (fl (encI false) x0.Freed) x0.Freed.length], 0⟩, some ⟨[.nils], 0⟩, some ⟨fl (enc_TBox true) v2.Boxes, 5⟩]) ok_spec_StateOf (law_spec_StateOf e2) (.cons (.lst ek_TItem) .nil) (ek_TState.own _) rfl ?_)
 refine rl.run 1 rfl (rl.done (RW.ret ?_))
 cases h2
 exact RRet.mk rfl (OutL.agg (.cons (OutR.ownq ek_TBox rfl rfl) rfl .nil)) (by first | decide | simp)
theorem law_laws_toRec {x0 : TRec} {r : TRec} (hF : F_laws_toRec x0 = some r) : PCalls Tryz.prog 26 [.agg (enc_TRec false x0)] (.agg (enc_TRec true r)) := by
 refine PCalls.of_r k_laws_toRec rfl ?_
 unfold F_laws_toRec at hF
 refine RW.sreg (rl.run 2 rfl (rl.done (RW.sreg (rl.run 1 rfl (rl.done (RW.sreg (rl.run 4 rfl (rl.done (RW.sreg (rl.run 4 rfl (rl.done ?_)))))))))))
 refine RW.sreg (rl.run 4 rfl (rl.done (RW.sreg (rl.run 4 rfl (rl.done ?_)))))
 refine RW.keep [1, 2, 3] (a' := [(1, .ptr 0 0), (2, .ptr 1 0), (3, .ptr 2 0)]) (H' := [some ⟨[.int .i64 x0.Kind, .int .i64 x0.Valid, .int .i64 x0.Uid, .int .i64 x0.Next, .int .i64 x0.Flags, .str x0.User, .str x0.Name, .str x0.Text], 0⟩, some ⟨[.int .i64 0, .int .i64 0, .int .i64 0, .int .i64 0, .int .i64 0, .str [], .str [], .str []], 0⟩, some ⟨[.int .i64 x0.Kind, .int .i64 x0.Valid, .int .i64 x0.Uid, .int .i64 x0.Next, .int .i64 0, .str [], .str [], .str []], 0⟩]) rfl rfl ?_
 refine RW.sreg (rl.run 4 rfl (rl.done (RW.sreg (rl.run 4 rfl (rl.done (RW.sreg (rl.run 4 rfl (rl.done (RW.sreg (rl.run 4 rfl (rl.done ?_)))))))))))
 refine RW.keep [2, 3] (a' := [(2, .ptr 1 0), (3, .ptr 2 0)]) (H' := [some ⟨[.int .i64 x0.Kind, .int .i64 x0.Valid, .int .i64 x0.Uid, .int .i64 x0.Next, .int .i64 x0.Flags, .str x0.User, .str x0.Name, .str x0.Text], 0⟩, some ⟨[.int .i64 0, .int .i64 0, .int .i64 0, .int .i64 0, .int .i64 0, .str [], .str [], .str []], 0⟩, some ⟨[.int .i64 x0.Kind, .int .i64 x0.Valid, .int .i64 x0.Uid, .int .i64 x0.Next, .int .i64 x0.Flags, .str x0.User, .str x0.Name, .str x0.Text], 0⟩]) rfl rfl ?_
 refine RW.sreg (rl.run 2 rfl (rl.done (RW.ret ?_)))
 cases hF
 exact RRet.mk rfl (OutL.agg (.cons .int rfl (.cons .int rfl (.cons .int rfl (.cons .int rfl (.cons .int rfl (.cons .str rfl (.cons .str rfl (.cons .str rfl .nil))))))))) (by first | decide | simp)
theorem law_laws_toItem {x0 : TItem} {r : TItem} (hF : F_laws_toItem x0 = some r) : PCalls Tryz.prog 215 [.agg (enc_TItem false x0)] (.agg (enc_TItem true r)) := by
 refine PCalls.of_r k_laws_toItem rfl ?_
 unfold F_laws_toItem at hF
 refine RW.sreg (rl.run 2 rfl (rl.done (RW.sreg (rl.run 1 rfl (rl.done (RW.sreg (rl.run 4 rfl (rl.done (RW.sreg (rl.run 2 rfl ?_))))))))))
 obtain ⟨v1, e1, h1⟩ := bindS hF
 refine rl.call rfl rfl rfl (CallW.val (r' := .agg (enc_TRec false v1)) ok_laws_toRec (law_laws_toRec e1) (.cons (DFL.agg (.cons .int (.cons .int (.cons .int (.cons .int (.cons .int (.cons .str (.cons .str (.cons .str .nil))))))))) .nil) .refl ?_)
 refine rl.run 2 rfl (rl.done (RW.sreg (rl.run 2 rfl (rl.done ?_))))
 refine RW.keep [2] (a' := [(2, .ptr 1 0)]) (H' := [some ⟨[.int .i64 x0.Seq, .int .i64 x0.Rec.Kind, .int .i64 x0.Rec.Valid, .int .i64 x0.Rec.Uid, .int .i64 x0.Rec.Next, .int .i64 x0.Rec.Flags, .str x0.Rec.User, .str x0.Rec.Name, .str x0.Rec.Text], 0⟩, some ⟨[.int .i64 x0.Seq, .int .i64 v1.Kind, .int .i64 v1.Valid, .int .i64 v1.Uid, .int .i64 v1.Next, .int .i64 v1.Flags, .str v1.User, .str v1.Name, .str v1.Text], 0⟩, some ⟨[.int .i64 x0.Seq, .int .i64 v1.Kind, .int .i64 v1.Valid, .int .i64 v1.Uid, .int .i64 v1.Next, .int .i64 v1.Flags, .str v1.User, .str v1.Name, .str v1.Text], 0⟩]) rfl rfl ?_
 refine RW.ret ?_
 cases h1
 exact RRet.mk rfl (OutL.agg (.cons .int rfl (.cons .int rfl (.cons .int rfl (.cons .int rfl (.cons .int rfl (.cons .int rfl (.cons .str rfl (.cons .str rfl (.cons .str rfl .nil)))))))))) (by first | decide | simp)
theorem law_laws_toItemS {x0 : List TItem} {r : List TItem} (hF : F_laws_toItemS x0 = some r) : PCalls Tryz.prog 197 [.lst false 9 (fl (enc_TItem false) x0) x0.length] (.lst true 9 (fl (enc_TItem true) r) r.length) := by
 refine PCalls.of_r k_laws_toItemS rfl ?_
 unfold F_laws_toItemS at hF
 refine RW.sreg (rl.run 1 rfl (rl.done (RW.sreg (rl.run 2 rfl ?_))))
 obtain ⟨v1, e1, h1⟩ := bindS hF
 refine rl.op (x_ms ek_TItem rfl rfl e1 rfl) ?_
 refine rl.run 1 rfl (rl.done (RW.seq (RW.sreg (rl.run 1 rfl (rl.done ?_)))))
 obtain ⟨y8, ey8, h3⟩ := bindS h1
 refine RW.cutq (σ := (List TItem)) (fun y3 => [(3, .sl 0 0 y3.length)]) (fun y3 => [some ⟨fl (enc_TItem true) y3, 9⟩]) (fun y => y8 = y) (fun _ _ _ _ g h => RW.gh g h) ?_ ?_
 ·refine RW.blk ?_
  refine RW.iter (σ := Int × (List TItem)) ey8 (fun s2 => [(0, .lst false 9 (fl (enc_TItem false) x0) x0.length), (3, .sl 0 0 s2.2.length), (4, .int .i64 s2.1)]) (fun s2 => [some ⟨fl (enc_TItem true) s2.2, 9⟩]) (Gh.ren0 [0] (.same rfl (ek_TItem.fref _ _) .nil) rfl (.cons rfl (.dat (ek_TItem.rlst)) (.cons rfl (.slq rfl rfl) (.cons rfl (.dat .int) .nil)))) (fun s2 B o hS2 hB2 hE2 => ?_)
  unfold S_laws_toItemS_1 at hS2
  refine RW.seq (RW.sreg (rl.run 3 rfl ?_))
  refine rl.gen rfl rfl fun b hb => ?_
  cases b
  ·have h4 := iteBF hS2 hb
   refine rl.done (RW.cond_f rfl (RW.exit (blkA_eq ?_)))
   cases h4
   exact ⟨_, (hE2 _ rfl).symm, (Gh.ren0 [0] (.same rfl (ek_TItem.fref _ _) .nil) rfl (.cons rfl (.slq rfl rfl) .nil))⟩
  ·have h5 := iteBT hS2 hb
   refine rl.done (RW.cond_t rfl (RW.skip (RW.seq (RW.blk (RW.reg (rl.run 4 rfl ?_))))))
   obtain ⟨v4, e4, h6⟩ := bindS h5
   refine rl.op (x_ia_lst (enc := enc_TItem) (o := false) rfl rfl rfl e4) ?_
   refine rl.op (x_ld_ela (off' := 0) (vs := (enc_TItem false v4)) ek_TItem rfl e4 rfl rfl rfl) ?_
   obtain ⟨v5, e5, h7⟩ := bindS h6
   refine rl.call rfl rfl rfl (CallW.val (r' := .agg (enc_TItem false v5)) ok_laws_toItem (law_laws_toItem e5) (.cons (.dat (.agg (ek_TItem.dat false _))) .nil) .refl ?_)
   obtain ⟨v6, e6, h8⟩ := bindS h7
   refine rl.op (x_ia_sl rfl rfl rfl rfl e6) ?_
   obtain ⟨v7, e7, h9⟩ := bindS h8
   refine rl.op0 (x_st_sl' (off' := 0) (o := true) (e' := v5) ek_TItem e6 rfl rfl rfl rfl rfl rfl rfl rfl rfl e7) ?_
   refine rl.done (RW.reg (rl.run 3 rfl (rl.done ?_)))
   cases h9
   exact hB2 _ rfl _ _ (Gh.ren0 [0] (.same rfl (ek_TItem.fref _ _) .nil) rfl (.cons rfl (.dat (ek_TItem.rlst)) (.cons rfl (.slq rfl (set'_len e7)) (.cons rfl (.dat .int) .nil))))
 ·intro y3 hC
  subst hC
  refine RW.sreg (rl.run 2 rfl (rl.done (RW.ret ?_)))
  cases h3
  exact RRet.mk rfl (OutR.ownq ek_TItem rfl rfl) (by first | decide | simp)
theorem law_laws_toSeg {x0 : TSeg} {r : TSeg} (hF : F_laws_toSeg x0 = some r) : PCalls Tryz.prog 156 [.agg (enc_TSeg false x0)] (.agg (enc_TSeg true r)) := by
 refine PCalls.of_r k_laws_toSeg rfl ?_
 unfold F_laws_toSeg at hF
 refine RW.sreg (rl.run 2 rfl (rl.done (RW.sreg (rl.run 1 rfl (rl.done (RW.sreg (rl.run 4 rfl (rl.done (RW.sreg (rl.run 4 rfl (rl.done ?_)))))))))))
 refine RW.sreg (rl.run 4 rfl (rl.done (RW.sreg (rl.run 2 rfl ?_))))
 obtain ⟨v1, e1, h1⟩ := bindS hF
 refine rl.call rfl rfl rfl (CallW.own (r' := .sl 3 0 v1.length) (H' := [some ⟨[.int .i64 x0.No, .int .i64 x0.Gen, .int .i64 x0.End, .lst false 9 (fl (enc_TItem false) x0.Items) x0.Items.length], 0⟩, some ⟨[.int .i64 0, .int .i64 0, .int .i64 0, .nils], 0⟩, some ⟨[.int .i64 x0.No, .int .i64 x0.Gen, .int .i64 x0.End, .nils], 0⟩, some ⟨fl (enc_TItem true) v1, 9⟩]) ok_laws_toItemS (law_laws_toItemS e1) (.cons (.lst ek_TItem) .nil) (.lst (ek_TItem.fown _)) rfl ?_)
 refine rl.run 2 rfl (rl.done ?_)
 refine RW.keep [2, 3] (a' := [(2, .ptr 1 0), (3, .ptr 2 0)]) (H' := [some ⟨[.int .i64 x0.No, .int .i64 x0.Gen, .int .i64 x0.End, .lst false 9 (fl (enc_TItem false) x0.Items) x0.Items.length], 0⟩, some ⟨[.int .i64 0, .int .i64 0, .int .i64 0, .nils], 0⟩, some ⟨[.int .i64 x0.No, .int .i64 x0.Gen, .int .i64 x0.End, .sl 3 0 v1.length], 0⟩, some ⟨fl (enc_TItem true) v1, 9⟩]) rfl rfl ?_
 refine RW.sreg (rl.run 2 rfl (rl.done (RW.ret ?_)))
 cases h1
 exact RRet.mk rfl (OutL.agg (.cons .int rfl (.cons .int rfl (.cons .int rfl (.cons (OutR.ownq ek_TItem rfl rfl) rfl .nil))))) (by first | decide | simp)
theorem law_laws_toSegS {x0 : List TSeg} {r : List TSeg} (hF : F_laws_toSegS x0 = some r) : PCalls Tryz.prog 100 [.lst false 4 (fl (enc_TSeg false) x0) x0.length] (.lst true 4 (fl (enc_TSeg true) r) r.length) := by
 refine PCalls.of_r k_laws_toSegS rfl ?_
 unfold F_laws_toSegS at hF
 refine RW.sreg (rl.run 1 rfl (rl.done (RW.sreg (rl.run 2 rfl ?_))))
 obtain ⟨v1, e1, h1⟩ := bindS hF
 refine rl.op (x_ms_raw rfl rfl e1) ?_
 refine rl.run 1 rfl (rl.done ?_)
 refine RW.gh (Gh.own0 (b := 0) rfl (NL.rep (.same (.same (.same (.nils (es := 9) .nil)))) _)) ?_
 refine RW.gh (Gh.blk (b := 0) rfl (raw_ms (enc := enc_TSeg) e1)) ?_
 refine RW.keep [0, 3] (a' := [(0, .lst false 4 (fl (enc_TSeg false) x0) x0.length), (3, .sl 0 0 v1.length)]) (H' := [some ⟨fl (enc_TSeg true) v1, 4⟩]) rfl rfl ?_
 refine RW.seq (RW.sreg (rl.run 1 rfl (rl.done ?_)))
 obtain ⟨y8, ey8, h3⟩ := bindS h1
 refine RW.cutq (σ := (List TSeg)) (fun y3 => [(3, .sl 0 0 y3.length)]) (fun y3 => [some ⟨fl (enc_TSeg true) y3, 4⟩]) (fun y => y8 = y) (fun _ _ _ _ g h => RW.gh g h) ?_ ?_
 ·refine RW.blk ?_
  refine RW.iter (σ := Int × (List TSeg)) ey8 (fun s2 => [(0, .lst false 4 (fl (enc_TSeg false) x0) x0.length), (3, .sl 0 0 s2.2.length), (4, .int .i64 s2.1)]) (fun s2 => [some ⟨fl (enc_TSeg true) s2.2, 4⟩]) (Gh.ren0 [0] (.same rfl (ek_TSeg.fref _ _) .nil) rfl (.cons rfl (.dat (ek_TSeg.rlst)) (.cons rfl (.slq rfl rfl) (.cons rfl (.dat .int) .nil)))) (fun s2 B o hS2 hB2 hE2 => ?_)
  unfold S_laws_toSegS_1 at hS2
  refine RW.seq (RW.sreg (rl.run 3 rfl ?_))
  refine rl.gen rfl rfl fun b hb => ?_
  cases b
  ·have h4 := iteBF hS2 hb
   refine rl.done (RW.cond_f rfl (RW.exit (blkA_eq ?_)))
   cases h4
   exact ⟨_, (hE2 _ rfl).symm, (Gh.ren0 [0] (.same rfl (ek_TSeg.fref _ _) .nil) rfl (.cons rfl (.slq rfl rfl) .nil))⟩
  ·have h5 := iteBT hS2 hb
   refine rl.done (RW.cond_t rfl (RW.skip (RW.seq (RW.blk (RW.reg (rl.run 4 rfl ?_))))))
   obtain ⟨v4, e4, h6⟩ := bindS h5
   refine rl.op (x_ia_lst (enc := enc_TSeg) (o := false) rfl rfl rfl e4) ?_
   refine rl.op (x_ld_ela (off' := 0) (vs := (enc_TSeg false v4)) ek_TSeg rfl e4 rfl rfl rfl) ?_
   obtain ⟨v5, e5, h7⟩ := bindS h6
   refine rl.call rfl rfl rfl (CallW.own (r' := .agg [.int .i64 v5.No, .int .i64 v5.Gen, .int .i64 v5.End, .sl 1 0 v5.Items.length]) (H' := [some ⟨fl (enc_TSeg true) s2.2, 4⟩, some ⟨fl (enc_TItem true) v5.Items, 9⟩]) ok_laws_toSeg (law_laws_toSeg e5) (.cons (.dat (.agg (ek_TSeg.dat false _))) .nil) (ek_TSeg.own _) rfl ?_)
   obtain ⟨v6, e6, h8⟩ := bindS h7
   refine rl.op (x_ia_sl rfl rfl rfl rfl e6) ?_
   obtain ⟨v7, e7, h9⟩ := bindS h8
   refine rl.op0 (x_st_raw (off' := 0) ek_TSeg e6 rfl rfl rfl rfl rfl rfl rfl rfl) ?_
   refine rl.done ?_
   refine RW.gh (Gh.absorb_rawq (b := 0) (j := 3) (m := 1) rfl rfl rfl (by decide) (by decide) rfl (ek_TItem.flen true _) (ek_TItem.fown _)) ?_
   refine RW.gh (Gh.blk (b := 0) rfl (raw_set ek_TSeg e6 e7 rfl)) ?_
   refine RW.reg (rl.run 3 rfl (rl.done ?_))
   cases h9
   exact hB2 _ rfl _ _ (Gh.ren0 [0] (.same rfl (ek_TSeg.fref _ _) .nil) rfl (.cons rfl (.dat (ek_TSeg.rlst)) (.cons rfl (.slq rfl (set'_len e7)) (.cons rfl (.dat .int) .nil))))
 ·intro y3 hC
  subst hC
  refine RW.sreg (rl.run 2 rfl (rl.done (RW.ret ?_)))
  cases h3
  exact RRet.mk rfl (OutR.ownq ek_TSeg rfl rfl) (by first | decide | simp)
theorem law_laws_toStringS {x0 : List (List UInt8)} {r : List (List UInt8)} (hF : F_laws_toStringS x0 = some r) : PCalls Tryz.prog 154 [.lst false 1 (fl (encS false) x0) x0.length] (.lst true 1 (fl (encS true) r) r.length) := by
 refine PCalls.of_r k_laws_toStringS rfl ?_
 unfold F_laws_toStringS at hF
 refine RW.sreg (rl.run 1 rfl (rl.done (RW.sreg (rl.run 2 rfl ?_))))
 obtain ⟨v1, e1, h1⟩ := bindS hF
 refine rl.op (x_ms ekS rfl rfl e1 rfl) ?_
 refine rl.run 1 rfl (rl.done (RW.seq (RW.sreg (rl.run 1 rfl (rl.done ?_)))))
 obtain ⟨y7, ey7, h3⟩ := bindS h1
 refine RW.cutq (σ := (List (List UInt8))) (fun y3 => [(3, .sl 0 0 y3.length)]) (fun y3 => [some ⟨fl (encS true) y3, 1⟩]) (fun y => y7 = y) (fun _ _ _ _ g h => RW.gh g h) ?_ ?_
 ·refine RW.blk ?_
  refine RW.iter (σ := Int × (List (List UInt8))) ey7 (fun s2 => [(0, .lst false 1 (fl (encS false) x0) x0.length), (3, .sl 0 0 s2.2.length), (4, .int .i64 s2.1)]) (fun s2 => [some ⟨fl (encS true) s2.2, 1⟩]) (Gh.ren0 [0] (.same rfl (ekS.fref _ _) .nil) rfl (.cons rfl (.dat (ekS.rlst)) (.cons rfl (.slq rfl rfl) (.cons rfl (.dat .int) .nil)))) (fun s2 B o hS2 hB2 hE2 => ?_)
  unfold S_laws_toStringS_1 at hS2
  refine RW.seq (RW.sreg (rl.run 3 rfl ?_))
  refine rl.gen rfl rfl fun b hb => ?_
  cases b
  ·have h4 := iteBF hS2 hb
   refine rl.done (RW.cond_f rfl (RW.exit (blkA_eq ?_)))
   cases h4
   exact ⟨_, (hE2 _ rfl).symm, (Gh.ren0 [0] (.same rfl (ekS.fref _ _) .nil) rfl (.cons rfl (.slq rfl rfl) .nil))⟩
  ·have h5 := iteBT hS2 hb
   refine rl.done (RW.cond_t rfl (RW.skip (RW.seq (RW.blk (RW.reg (rl.run 4 rfl ?_))))))
   obtain ⟨v4, e4, h6⟩ := bindS h5
   refine rl.op (x_ia_lst (enc := encS) (o := false) rfl rfl rfl e4) ?_
   refine rl.op (x_ld_el (off' := 0) ekS rfl e4 rfl rfl rfl) ?_
   obtain ⟨v5, e5, h7⟩ := bindS h6
   refine rl.op (x_ia_sl rfl rfl rfl rfl e5) ?_
   obtain ⟨v6, e6, h8⟩ := bindS h7
   refine rl.op0 (x_st_sl' (off' := 0) (o := true) (e' := v4) ekS e5 rfl rfl rfl rfl rfl rfl rfl rfl rfl e6) ?_
   refine rl.done (RW.reg (rl.run 3 rfl (rl.done ?_)))
   cases h8
   exact hB2 _ rfl _ _ (Gh.ren0 [0] (.same rfl (ekS.fref _ _) .nil) rfl (.cons rfl (.dat (ekS.rlst)) (.cons rfl (.slq rfl (set'_len e6)) (.cons rfl (.dat .int) .nil))))
 ·intro y3 hC
  subst hC
  refine RW.sreg (rl.run 2 rfl (rl.done (RW.ret ?_)))
  cases h3
  exact RRet.mk rfl (OutR.ownq ekS rfl rfl) (by first | decide | simp)
theorem law_laws_toWrite {x0 : TWrite} {r : TWrite} (hF : F_laws_toWrite x0 = some r) : PCalls Tryz.prog 196 [.agg (enc_TWrite false x0)] (.agg (enc_TWrite true r)) := by
 refine PCalls.of_r k_laws_toWrite rfl ?_
 unfold F_laws_toWrite at hF
 refine RW.sreg (rl.run 2 rfl (rl.done (RW.sreg (rl.run 1 rfl (rl.done (RW.sreg (rl.run 4 rfl (rl.done (RW.sreg (rl.run 4 rfl (rl.done ?_)))))))))))
 refine RW.sreg (rl.run 2 rfl (rl.done (RW.ret ?_)))
 cases hF
 exact RRet.mk rfl (OutL.agg (.cons .int rfl (.cons .str rfl .nil))) (by first | decide | simp)
theorem law_laws_toWriteS {x0 : List TWrite} {r : List TWrite} (hF : F_laws_toWriteS x0 = some r) : PCalls Tryz.prog 155 [.lst false 2 (fl (enc_TWrite false) x0) x0.length] (.lst true 2 (fl (enc_TWrite true) r) r.length) := by
 refine PCalls.of_r k_laws_toWriteS rfl ?_
 unfold F_laws_toWriteS at hF
 refine RW.sreg (rl.run 1 rfl (rl.done (RW.sreg (rl.run 2 rfl ?_))))
 obtain ⟨v1, e1, h1⟩ := bindS hF
 refine rl.op (x_ms ek_TWrite rfl rfl e1 rfl) ?_
 refine rl.run 1 rfl (rl.done (RW.seq (RW.sreg (rl.run 1 rfl (rl.done ?_)))))
 obtain ⟨y8, ey8, h3⟩ := bindS h1
 refine RW.cutq (σ := (List TWrite)) (fun y3 => [(3, .sl 0 0 y3.length)]) (fun y3 => [some ⟨fl (enc_TWrite true) y3, 2⟩]) (fun y => y8 = y) (fun _ _ _ _ g h => RW.gh g h) ?_ ?_
 ·refine RW.blk ?_
  refine RW.iter (σ := Int × (List TWrite)) ey8 (fun s2 => [(0, .lst false 2 (fl (enc_TWrite false) x0) x0.length), (3, .sl 0 0 s2.2.length), (4, .int .i64 s2.1)]) (fun s2 => [some ⟨fl (enc_TWrite true) s2.2, 2⟩]) (Gh.ren0 [0] (.same rfl (ek_TWrite.fref _ _) .nil) rfl (.cons rfl (.dat (ek_TWrite.rlst)) (.cons rfl (.slq rfl rfl) (.cons rfl (.dat .int) .nil)))) (fun s2 B o hS2 hB2 hE2 => ?_)
  unfold S_laws_toWriteS_1 at hS2
  refine RW.seq (RW.sreg (rl.run 3 rfl ?_))
  refine rl.gen rfl rfl fun b hb => ?_
  cases b
  ·have h4 := iteBF hS2 hb
   refine rl.done (RW.cond_f rfl (RW.exit (blkA_eq ?_)))
   cases h4
   exact ⟨_, (hE2 _ rfl).symm, (Gh.ren0 [0] (.same rfl (ek_TWrite.fref _ _) .nil) rfl (.cons rfl (.slq rfl rfl) .nil))⟩
  ·have h5 := iteBT hS2 hb
   refine rl.done (RW.cond_t rfl (RW.skip (RW.seq (RW.blk (RW.reg (rl.run 4 rfl ?_))))))
   obtain ⟨v4, e4, h6⟩ := bindS h5
   refine rl.op (x_ia_lst (enc := enc_TWrite) (o := false) rfl rfl rfl e4) ?_
   refine rl.op (x_ld_ela (off' := 0) (vs := (enc_TWrite false v4)) ek_TWrite rfl e4 rfl rfl rfl) ?_
   obtain ⟨v5, e5, h7⟩ := bindS h6
   refine rl.call rfl rfl rfl (CallW.val (r' := .agg (enc_TWrite false v5)) ok_laws_toWrite (law_laws_toWrite e5) (.cons (.dat (.agg (ek_TWrite.dat false _))) .nil) .refl ?_)
   obtain ⟨v6, e6, h8⟩ := bindS h7
   refine rl.op (x_ia_sl rfl rfl rfl rfl e6) ?_
   obtain ⟨v7, e7, h9⟩ := bindS h8
   refine rl.op0 (x_st_sl' (off' := 0) (o := true) (e' := v5) ek_TWrite e6 rfl rfl rfl rfl rfl rfl rfl rfl rfl e7) ?_
   refine rl.done (RW.reg (rl.run 3 rfl (rl.done ?_)))
   cases h9
   exact hB2 _ rfl _ _ (Gh.ren0 [0] (.same rfl (ek_TWrite.fref _ _) .nil) rfl (.cons rfl (.dat (ek_TWrite.rlst)) (.cons rfl (.slq rfl (set'_len e7)) (.cons rfl (.dat .int) .nil))))
 ·intro y3 hC
  subst hC
  refine RW.sreg (rl.run 2 rfl (rl.done (RW.ret ?_)))
  cases h3
  exact RRet.mk rfl (OutR.ownq ek_TWrite rfl rfl) (by first | decide | simp)
theorem law_laws_toDisk {x0 : TDisk} {r : TDisk} (hF : F_laws_toDisk x0 = some r) : PCalls Tryz.prog 99 [.agg (enc_TDisk false x0)] (.agg (enc_TDisk true r)) := by
 refine PCalls.of_r k_laws_toDisk rfl ?_
 unfold F_laws_toDisk at hF
 refine RW.sreg (rl.run 2 rfl (rl.done (RW.sreg (rl.run 1 rfl (rl.done (RW.sreg (rl.run 2 rfl ?_)))))))
 obtain ⟨v1, e1, h1⟩ := bindS hF
 refine rl.call rfl rfl rfl (CallW.own (r' := .sl 3 0 v1.length) (H' := [some ⟨[.lst false 1 (fl (encS false) x0.Sectors) x0.Sectors.length, .lst false 2 (fl (enc_TWrite false) x0.Cache) x0.Cache.length], 0⟩, some ⟨[.nils, .nils], 0⟩, some ⟨[.nils, .nils], 0⟩, some ⟨fl (encS true) v1, 1⟩]) ok_laws_toStringS (law_laws_toStringS e1) (.cons (.lst ekS) .nil) (.lst (ekS.fown _)) rfl ?_)
 refine rl.run 2 rfl (rl.done (RW.sreg (rl.run 2 rfl ?_)))
 obtain ⟨v2, e2, h2⟩ := bindS h1
 refine rl.call rfl rfl rfl (CallW.own (r' := .sl 4 0 v2.length) (H' := [some ⟨[.lst false 1 (fl (encS false) x0.Sectors) x0.Sectors.length, .lst false 2 (fl (enc_TWrite false) x0.Cache) x0.Cache.length], 0⟩, some ⟨[.nils, .nils], 0⟩, some ⟨[.sl 3 0 v1.length, .nils], 0⟩, some ⟨fl (encS true) v1, 1⟩, some ⟨fl (enc_TWrite true) v2, 2⟩]) ok_laws_toWriteS (law_laws_toWriteS e2) (.cons (.lst ek_TWrite) .nil) (.lst (ek_TWrite.fown _)) rfl ?_)
 refine rl.run 2 rfl (rl.done (RW.sreg (rl.run 2 rfl (rl.done ?_))))
 refine RW.keep [2] (a' := [(2, .ptr 1 0)]) (H' := [some ⟨[.lst false 1 (fl (encS false) x0.Sectors) x0.Sectors.length, .lst false 2 (fl (enc_TWrite false) x0.Cache) x0.Cache.length], 0⟩, some ⟨[.sl 3 0 v1.length, .sl 4 0 v2.length], 0⟩, some ⟨[.sl 3 0 v1.length, .sl 4 0 v2.length], 0⟩, some ⟨fl (encS true) v1, 1⟩, some ⟨fl (enc_TWrite true) v2, 2⟩]) rfl rfl ?_
 refine RW.ret ?_
 cases h2
 exact RRet.mk rfl (OutL.agg (.cons (OutR.ownq ekS rfl rfl) rfl (.cons (OutR.ownq ek_TWrite rfl rfl) rfl .nil))) (by first | decide | simp)
theorem law_laws_toLog {x0 : TLog} {r : TLog} (hF : F_laws_toLog x0 = some r) : PCalls Tryz.prog 51 [.agg (enc_TLog false x0)] (.agg (enc_TLog true r)) := by
 refine PCalls.of_r k_laws_toLog rfl ?_
 unfold F_laws_toLog at hF
 refine RW.sreg (rl.run 2 rfl (rl.done (RW.sreg (rl.run 1 rfl (rl.done (RW.sreg (rl.run 2 rfl ?_)))))))
 obtain ⟨v1, e1, h1⟩ := bindS hF
 refine rl.call rfl rfl rfl (CallW.own (r' := .agg [.sl 3 0 v1.Sectors.length, .sl 4 0 v1.Cache.length]) (H' := [some ⟨[.lst false 1 (fl (encS false) x0.Disk.Sectors) x0.Disk.Sectors.length, .lst false 2 (fl (enc_TWrite false) x0.Disk.Cache) x0.Disk.Cache.length, .int .i64 x0.Segs, .lst false 4 (fl (enc_TSeg false) x0.Used) x0.Used.length, .int .i64 x0.NextGen, .int .i64 x0.NextSeq, .int .i64 x0.Stamp, .int .i64 x0.NextValid], 0⟩, some ⟨[.nils, .nils, .int .i64 0, .nils, .int .i64 0, .int .i64 0, .int .i64 0, .int .i64 0], 0⟩, some ⟨[.nils, .nils, .int .i64 0, .nils, .int .i64 0, .int .i64 0, .int .i64 0, .int .i64 0], 0⟩, some ⟨fl (encS true) v1.Sectors, 1⟩, some ⟨fl (enc_TWrite true) v1.Cache, 2⟩]) ok_laws_toDisk (law_laws_toDisk e1) (.cons (DFL.agg (.cons (.lst ekS) (.cons (.lst ek_TWrite) .nil))) .nil) (ek_TDisk.own _) rfl ?_)
 refine rl.run 2 rfl (rl.done (RW.sreg (rl.run 4 rfl (rl.done (RW.sreg (rl.run 2 rfl ?_))))))
 obtain ⟨v2, e2, h2⟩ := bindS h1
 refine rl.call rfl rfl rfl (CallW.own (r' := .sl 5 0 v2.length) (H' := [some ⟨[.lst false 1 (fl (encS false) x0.Disk.Sectors) x0.Disk.Sectors.length, .lst false 2 (fl (enc_TWrite false) x0.Disk.Cache) x0.Disk.Cache.length, .int .i64 x0.Segs, .lst false 4 (fl (enc_TSeg false) x0.Used) x0.Used.length, .int .i64 x0.NextGen, .int .i64 x0.NextSeq, .int .i64 x0.Stamp, .int .i64 x0.NextValid], 0⟩, some ⟨[.nils, .nils, .int .i64 0, .nils, .int .i64 0, .int .i64 0, .int .i64 0, .int .i64 0], 0⟩, some ⟨[.sl 3 0 v1.Sectors.length, .sl 4 0 v1.Cache.length, .int .i64 x0.Segs, .nils, .int .i64 0, .int .i64 0, .int .i64 0, .int .i64 0], 0⟩, some ⟨fl (encS true) v1.Sectors, 1⟩, some ⟨fl (enc_TWrite true) v1.Cache, 2⟩, some ⟨fl (enc_TSeg true) v2, 4⟩]) ok_laws_toSegS (law_laws_toSegS e2) (.cons (.lst ek_TSeg) .nil) (.lst (ek_TSeg.fown _)) rfl ?_)
 refine rl.run 2 rfl (rl.done ?_)
 refine RW.keep [1, 2, 3] (a' := [(1, .ptr 0 0), (2, .ptr 1 0), (3, .ptr 2 0)]) (H' := [some ⟨[.lst false 1 (fl (encS false) x0.Disk.Sectors) x0.Disk.Sectors.length, .lst false 2 (fl (enc_TWrite false) x0.Disk.Cache) x0.Disk.Cache.length, .int .i64 x0.Segs, .lst false 4 (fl (enc_TSeg false) x0.Used) x0.Used.length, .int .i64 x0.NextGen, .int .i64 x0.NextSeq, .int .i64 x0.Stamp, .int .i64 x0.NextValid], 0⟩, some ⟨[.nils, .nils, .int .i64 0, .nils, .int .i64 0, .int .i64 0, .int .i64 0, .int .i64 0], 0⟩, some ⟨[.sl 3 0 v1.Sectors.length, .sl 4 0 v1.Cache.length, .int .i64 x0.Segs, .sl 5 0 v2.length, .int .i64 0, .int .i64 0, .int .i64 0, .int .i64 0], 0⟩, some ⟨fl (encS true) v1.Sectors, 1⟩, some ⟨fl (enc_TWrite true) v1.Cache, 2⟩, some ⟨fl (enc_TSeg true) v2, 4⟩]) rfl rfl ?_
 refine RW.sreg (rl.run 4 rfl (rl.done (RW.sreg (rl.run 4 rfl (rl.done (RW.sreg (rl.run 4 rfl (rl.done (RW.sreg (rl.run 4 rfl (rl.done ?_)))))))))))
 refine RW.keep [2, 3] (a' := [(2, .ptr 1 0), (3, .ptr 2 0)]) (H' := [some ⟨[.lst false 1 (fl (encS false) x0.Disk.Sectors) x0.Disk.Sectors.length, .lst false 2 (fl (enc_TWrite false) x0.Disk.Cache) x0.Disk.Cache.length, .int .i64 x0.Segs, .lst false 4 (fl (enc_TSeg false) x0.Used) x0.Used.length, .int .i64 x0.NextGen, .int .i64 x0.NextSeq, .int .i64 x0.Stamp, .int .i64 x0.NextValid], 0⟩, some ⟨[.nils, .nils, .int .i64 0, .nils, .int .i64 0, .int .i64 0, .int .i64 0, .int .i64 0], 0⟩, some ⟨[.sl 3 0 v1.Sectors.length, .sl 4 0 v1.Cache.length, .int .i64 x0.Segs, .sl 5 0 v2.length, .int .i64 x0.NextGen, .int .i64 x0.NextSeq, .int .i64 x0.Stamp, .int .i64 x0.NextValid], 0⟩, some ⟨fl (encS true) v1.Sectors, 1⟩, some ⟨fl (enc_TWrite true) v1.Cache, 2⟩, some ⟨fl (enc_TSeg true) v2, 4⟩]) rfl rfl ?_
 refine RW.sreg (rl.run 2 rfl (rl.done (RW.ret ?_)))
 cases h2
 exact RRet.mk rfl (OutL.agg (.cons (OutR.ownq ekS rfl rfl) rfl (.cons (OutR.ownq ek_TWrite rfl rfl) rfl (.cons .int rfl (.cons (OutR.ownq ek_TSeg rfl rfl) rfl (.cons .int rfl (.cons .int rfl (.cons .int rfl (.cons .int rfl .nil))))))))) (by first | decide | simp)
theorem law_laws_toIntS {x0 : List Int} {r : List Int} (hF : F_laws_toIntS x0 = some r) : PCalls Tryz.prog 52 [.lst false 1 (fl (encI false) x0) x0.length] (.lst true 1 (fl (encI true) r) r.length) := by
 refine PCalls.of_r k_laws_toIntS rfl ?_
 unfold F_laws_toIntS at hF
 refine RW.sreg (rl.run 1 rfl (rl.done (RW.sreg (rl.run 2 rfl ?_))))
 obtain ⟨v1, e1, h1⟩ := bindS hF
 refine rl.op (x_ms ekI rfl rfl e1 rfl) ?_
 refine rl.run 1 rfl (rl.done (RW.seq (RW.sreg (rl.run 1 rfl (rl.done ?_)))))
 obtain ⟨y7, ey7, h3⟩ := bindS h1
 refine RW.cutq (σ := (List Int)) (fun y3 => [(3, .sl 0 0 y3.length)]) (fun y3 => [some ⟨fl (encI true) y3, 1⟩]) (fun y => y7 = y) (fun _ _ _ _ g h => RW.gh g h) ?_ ?_
 ·refine RW.blk ?_
  refine RW.iter (σ := Int × (List Int)) ey7 (fun s2 => [(0, .lst false 1 (fl (encI false) x0) x0.length), (3, .sl 0 0 s2.2.length), (4, .int .i64 s2.1)]) (fun s2 => [some ⟨fl (encI true) s2.2, 1⟩]) (Gh.ren0 [0] (.same rfl (ekI.fref _ _) .nil) rfl (.cons rfl (.dat (ekI.rlst)) (.cons rfl (.slq rfl rfl) (.cons rfl (.dat .int) .nil)))) (fun s2 B o hS2 hB2 hE2 => ?_)
  unfold S_laws_toIntS_1 at hS2
  refine RW.seq (RW.sreg (rl.run 3 rfl ?_))
  refine rl.gen rfl rfl fun b hb => ?_
  cases b
  ·have h4 := iteBF hS2 hb
   refine rl.done (RW.cond_f rfl (RW.exit (blkA_eq ?_)))
   cases h4
   exact ⟨_, (hE2 _ rfl).symm, (Gh.ren0 [0] (.same rfl (ekI.fref _ _) .nil) rfl (.cons rfl (.slq rfl rfl) .nil))⟩
  ·have h5 := iteBT hS2 hb
   refine rl.done (RW.cond_t rfl (RW.skip (RW.seq (RW.blk (RW.reg (rl.run 4 rfl ?_))))))
   obtain ⟨v4, e4, h6⟩ := bindS h5
   refine rl.op (x_ia_lst (enc := encI) (o := false) rfl rfl rfl e4) ?_
   refine rl.op (x_ld_el (off' := 0) ekI rfl e4 rfl rfl rfl) ?_
   obtain ⟨v5, e5, h7⟩ := bindS h6
   refine rl.op (x_ia_sl rfl rfl rfl rfl e5) ?_
   obtain ⟨v6, e6, h8⟩ := bindS h7
   refine rl.op0 (x_st_sl' (off' := 0) (o := true) (e' := v4) ekI e5 rfl rfl rfl rfl rfl rfl rfl rfl rfl e6) ?_
   refine rl.done (RW.reg (rl.run 3 rfl (rl.done ?_)))
   cases h8
   exact hB2 _ rfl _ _ (Gh.ren0 [0] (.same rfl (ekI.fref _ _) .nil) rfl (.cons rfl (.dat (ekI.rlst)) (.cons rfl (.slq rfl (set'_len e6)) (.cons rfl (.dat .int) .nil))))
 ·intro y3 hC
  subst hC
  refine RW.sreg (rl.run 2 rfl (rl.done (RW.ret ?_)))
  cases h3
  exact RRet.mk rfl (OutR.ownq ekI rfl rfl) (by first | decide | simp)
theorem law_laws_toStore {x0 : TStore} {r : TStore} (hF : F_laws_toStore x0 = some r) : PCalls Tryz.prog 19 [.agg (enc_TStore false x0)] (.agg (enc_TStore true r)) := by
 refine PCalls.of_r k_laws_toStore rfl ?_
 unfold F_laws_toStore at hF
 refine RW.sreg (rl.run 2 rfl (rl.done (RW.sreg (rl.run 1 rfl (rl.done (RW.sreg (rl.run 2 rfl ?_)))))))
 obtain ⟨v1, e1, h1⟩ := bindS hF
 refine rl.call rfl rfl rfl (CallW.own (r' := .agg [.sl 3 0 v1.Disk.Sectors.length, .sl 4 0 v1.Disk.Cache.length, .int .i64 v1.Segs, .sl 5 0 v1.Used.length, .int .i64 v1.NextGen, .int .i64 v1.NextSeq, .int .i64 v1.Stamp, .int .i64 v1.NextValid]) (H' := [some ⟨[.lst false 1 (fl (encS false) x0.Log.Disk.Sectors) x0.Log.Disk.Sectors.length, .lst false 2 (fl (enc_TWrite false) x0.Log.Disk.Cache) x0.Log.Disk.Cache.length, .int .i64 x0.Log.Segs, .lst false 4 (fl (enc_TSeg false) x0.Log.Used) x0.Log.Used.length, .int .i64 x0.Log.NextGen, .int .i64 x0.Log.NextSeq, .int .i64 x0.Log.Stamp, .int .i64 x0.Log.NextValid, .lst false 1 (fl (encI false) x0.Freed) x0.Freed.length], 0⟩, some ⟨[.nils, .nils, .int .i64 0, .nils, .int .i64 0, .int .i64 0, .int .i64 0, .int .i64 0, .nils], 0⟩, some ⟨[.nils, .nils, .int .i64 0, .nils, .int .i64 0, .int .i64 0, .int .i64 0, .int .i64 0, .nils], 0⟩, some ⟨fl (encS true) v1.Disk.Sectors, 1⟩, some ⟨fl (enc_TWrite true) v1.Disk.Cache, 2⟩, some ⟨fl (enc_TSeg true) v1.Used, 4⟩]) ok_laws_toLog (law_laws_toLog e1) (.cons (DFL.agg (.cons (.lst ekS) (.cons (.lst ek_TWrite) (.cons .int (.cons (.lst ek_TSeg) (.cons .int (.cons .int (.cons .int (.cons .int .nil))))))))) .nil) (ek_TLog.own _) rfl ?_)
 refine rl.run 2 rfl (rl.done (RW.sreg (rl.run 2 rfl ?_)))
 obtain ⟨v2, e2, h2⟩ := bindS h1
 refine rl.call rfl rfl rfl (CallW.own (r' := .sl 6 0 v2.length) (H' := [some ⟨[.lst false 1 (fl (encS false) x0.Log.Disk.Sectors) x0.Log.Disk.Sectors.length, .lst false 2 (fl (enc_TWrite false) x0.Log.Disk.Cache) x0.Log.Disk.Cache.length, .int .i64 x0.Log.Segs, .lst false 4 (fl (enc_TSeg false) x0.Log.Used) x0.Log.Used.length, .int .i64 x0.Log.NextGen, .int .i64 x0.Log.NextSeq, .int .i64 x0.Log.Stamp, .int .i64 x0.Log.NextValid, .lst false 1 (fl (encI false) x0.Freed) x0.Freed.length], 0⟩, some ⟨[.nils, .nils, .int .i64 0, .nils, .int .i64 0, .int .i64 0, .int .i64 0, .int .i64 0, .nils], 0⟩, some ⟨[.sl 3 0 v1.Disk.Sectors.length, .sl 4 0 v1.Disk.Cache.length, .int .i64 v1.Segs, .sl 5 0 v1.Used.length, .int .i64 v1.NextGen, .int .i64 v1.NextSeq, .int .i64 v1.Stamp, .int .i64 v1.NextValid, .nils], 0⟩, some ⟨fl (encS true) v1.Disk.Sectors, 1⟩, some ⟨fl (enc_TWrite true) v1.Disk.Cache, 2⟩, some ⟨fl (enc_TSeg true) v1.Used, 4⟩, some ⟨fl (encI true) v2, 1⟩]) ok_laws_toIntS (law_laws_toIntS e2) (.cons (.lst ekI) .nil) (.lst (ekI.fown _)) rfl ?_)
 refine rl.run 2 rfl (rl.done (RW.sreg (rl.run 2 rfl (rl.done ?_))))
 refine RW.keep [2] (a' := [(2, .ptr 1 0)]) (H' := [some ⟨[.lst false 1 (fl (encS false) x0.Log.Disk.Sectors) x0.Log.Disk.Sectors.length, .lst false 2 (fl (enc_TWrite false) x0.Log.Disk.Cache) x0.Log.Disk.Cache.length, .int .i64 x0.Log.Segs, .lst false 4 (fl (enc_TSeg false) x0.Log.Used) x0.Log.Used.length, .int .i64 x0.Log.NextGen, .int .i64 x0.Log.NextSeq, .int .i64 x0.Log.Stamp, .int .i64 x0.Log.NextValid, .lst false 1 (fl (encI false) x0.Freed) x0.Freed.length], 0⟩, some ⟨[.sl 3 0 v1.Disk.Sectors.length, .sl 4 0 v1.Disk.Cache.length, .int .i64 v1.Segs, .sl 5 0 v1.Used.length, .int .i64 v1.NextGen, .int .i64 v1.NextSeq, .int .i64 v1.Stamp, .int .i64 v1.NextValid, .sl 6 0 v2.length], 0⟩, some ⟨[.sl 3 0 v1.Disk.Sectors.length, .sl 4 0 v1.Disk.Cache.length, .int .i64 v1.Segs, .sl 5 0 v1.Used.length, .int .i64 v1.NextGen, .int .i64 v1.NextSeq, .int .i64 v1.Stamp, .int .i64 v1.NextValid, .sl 6 0 v2.length], 0⟩, some ⟨fl (encS true) v1.Disk.Sectors, 1⟩, some ⟨fl (enc_TWrite true) v1.Disk.Cache, 2⟩, some ⟨fl (enc_TSeg true) v1.Used, 4⟩, some ⟨fl (encI true) v2, 1⟩]) rfl rfl ?_
 refine RW.ret ?_
 cases h2
 exact RRet.mk rfl (OutL.agg (.cons (OutR.ownq ekS rfl rfl) rfl (.cons (OutR.ownq ek_TWrite rfl rfl) rfl (.cons .int rfl (.cons (OutR.ownq ek_TSeg rfl rfl) rfl (.cons .int rfl (.cons .int rfl (.cons .int rfl (.cons .int rfl (.cons (OutR.ownq ekI rfl rfl) rfl .nil)))))))))) (by first | decide | simp)
theorem law_impl_in {x0 : Int} {x1 : Int} {x2 : Int} {r : Bool} (hF : F_impl_in x0 x1 x2 = some r) : PCalls Tryz.prog 33 [.int .i64 x0, .int .i64 x1, .int .i64 x2] (.bool r) := by
 refine PCalls.of_r k_impl_in rfl ?_
 unfold F_impl_in at hF
 refine RW.sreg (rl.run 1 rfl (rl.done (RW.sreg (rl.run 2 rfl ?_))))
 refine rl.gen rfl rfl fun b hb => ?_
 cases b
 ·have h1 := iteBF hF hb
  refine rl.run 6 rfl (rl.done ?_)
  refine RW.keep [6] (a' := [(6, .bool false)]) (H' := []) rfl rfl ?_
  refine RW.ret ?_
  cases h1
  exact RRet.mk rfl .bool (by first | decide | simp)
 ·have h2 := iteBT hF hb
  refine rl.run 6 rfl (rl.done ?_)
  refine RW.keep [6] (a' := [(6, .bool (decide (x0 ≤ x2)))]) (H' := []) rfl rfl ?_
  refine RW.ret ?_
  cases h2
  exact RRet.mk rfl .bool (by first | decide | simp)
theorem law_impl_WordOk {x0 : List UInt8} {r : Bool} (hF : F_impl_WordOk x0 = some r) : PCalls Tryz.prog 198 [.str x0] (.bool r) := by
 refine PCalls.of_r k_impl_WordOk rfl ?_
 unfold F_impl_WordOk at hF
 refine RW.sreg (rl.run 1 rfl (rl.done (RW.seq (RW.sreg (rl.run 2 rfl ?_)))))
 obtain ⟨v1, e1, h1⟩ := bindS hF
 refine rl.call rfl rfl rfl (CallW.val (r' := .bool v1) ok_impl_in (law_impl_in e1) (.cons .int (.cons .int (.cons .int .nil))) .refl ?_)
 cases hb : v1
 ·have h2 := iteBF h1 hb
  refine rl.run 1 rfl (rl.done (RW.cond_t rfl (RW.sreg (rl.run 1 rfl (rl.done (RW.ret ?_))))))
  cases h2
  exact RRet.mk rfl .bool (by first | decide | simp)
 ·have h3 := iteBT h1 hb
  refine rl.run 1 rfl (rl.done (RW.cond_f rfl (RW.skip (RW.seq (RW.sreg (rl.run 3 rfl (rl.done ?_)))))))
  obtain ⟨y7, ey7, h5⟩ := bindS h3
  refine RW.cutq (σ := Unit) (fun y3 => []) (fun y3 => []) (fun y => y7 = .inr y) (fun _ _ _ _ g h => RW.gh g h) ?_ ?_
  ·refine RW.blk ?_
   refine RW.iter (σ := Int) ey7 (fun s2 => [(0, .str x0), (9, .int .i64 (x0.length : Int)), (10, .int .i64 s2)]) (fun s2 => []) (Gh.ren0 [] .nil rfl (.cons rfl (.dat .str) (.cons rfl (.dat .int) (.cons rfl (.dat .int) .nil)))) (fun s2 B o hS4 hB4 hE4 => ?_)
   unfold S_impl_WordOk_1 at hS4
   refine RW.sreg ?_
   refine rl.gen rfl rfl fun b hb => ?_
   cases b
   ·have h6 := iteBF hS4 hb
    refine rl.done (RW.seq (RW.cond_f rfl (RW.exit (blkA_eq ?_))))
    cases h6
    exact ⟨_, (hE4 _ rfl).symm, (Gh.ren0 [] .nil rfl .nil)⟩
   ·have h7 := iteBT hS4 hb
    refine rl.done (RW.seq (RW.cond_t rfl (RW.skip (RW.seq (RW.blk (RW.sreg (rl.run 2 rfl (rl.done (RW.seq ?_)))))))))
    obtain ⟨y4, ey4, h8⟩ := bindS h7
    refine RW.cutq (σ := Bool) (fun y4 => [(0, .str x0), (9, .int .i64 (x0.length : Int)), (10, .int .i64 s2), (22, .bool y4)]) (fun y4 => []) (fun y => y4 = y) (fun _ _ _ _ g h => RW.gh g h) ?_ ?_
    ·refine RW.reg ?_
     refine rl.run 2 rfl ?_
     obtain ⟨v5, e5, h9⟩ := bindS ey4
     refine rl.op (x_idx rfl rfl e5) ?_
     refine rl.gen rfl rfl fun b hb => ?_
     cases b
     ·have h10 := iteBF h9 hb
      refine rl.run 3 rfl ?_
      obtain ⟨v6, e6, h11⟩ := bindS h10
      refine rl.gop rfl (x_idx rfl rfl e6) ?_
      refine rl.gen rfl rfl fun b hb => ?_
      cases b
      ·have h12 := iteBF h11 hb
       refine rl.run 1 rfl (rl.done ?_)
       cases h12
       exact ⟨_, rfl, (Gh.ren0 [] .nil rfl (.cons rfl (.dat .str) (.cons rfl (.dat .int) (.cons rfl (.dat .int) (.cons rfl (.dat .bool) .nil)))))⟩
      ·have h13 := iteBT h11 hb
       refine rl.run 1 rfl (rl.done ?_)
       cases h13
       exact ⟨_, rfl, (Gh.ren0 [] .nil rfl (.cons rfl (.dat .str) (.cons rfl (.dat .int) (.cons rfl (.dat .int) (.cons rfl (.dat .bool) .nil)))))⟩
     ·have h14 := iteBT h9 hb
      refine rl.run 6 rfl (rl.done ?_)
      cases h14
      exact ⟨_, rfl, (Gh.ren0 [] .nil rfl (.cons rfl (.dat .str) (.cons rfl (.dat .int) (.cons rfl (.dat .int) (.cons rfl (.dat .bool) .nil)))))⟩
    ·intro y hC
     subst hC
     cases hb : y4
     ·have h15 := iteBF h8 hb
      refine RW.cond_f rfl (RW.skip (RW.reg (rl.run 2 rfl (rl.done ?_))))
      cases h15
      exact hB4 _ rfl _ _ (Gh.ren0 [] .nil rfl (.cons rfl (.dat .str) (.cons rfl (.dat .int) (.cons rfl (.dat .int) .nil))))
     ·have h16 := iteBT h8 hb
      refine RW.cond_t rfl (RW.sreg (rl.run 1 rfl (rl.done (RW.ret ?_))))
      cases h16
      have h17 := elimL h5 (hE4 _ rfl)
      cases h17
      exact RRet.mk rfl .bool (by first | decide | simp)
  ·intro y3 hC
   have h5 := elimR h5 hC
   refine RW.sreg (rl.run 1 rfl (rl.done (RW.ret ?_)))
   cases h5
   exact RRet.mk rfl .bool (by first | decide | simp)
set_option maxHeartbeats 2000000 in
theorem law_impl_RecOk {x0 : TRec} {r : Bool} (hF : F_impl_RecOk x0 = some r) : PCalls Tryz.prog 157 [.agg (enc_TRec false x0)] (.bool r) := by
 refine PCalls.of_r k_impl_RecOk rfl ?_
 unfold F_impl_RecOk at hF
 refine RW.sreg (rl.run 2 rfl (rl.done (RW.seq (RW.sreg (rl.run 2 rfl ?_)))))
 obtain ⟨v1, e1, h1⟩ := bindS hF
 refine rl.call rfl rfl rfl (CallW.val (r' := .bool v1) ok_impl_in (law_impl_in e1) (.cons .int (.cons .int (.cons .int .nil))) .refl ?_)
 cases hb : v1
 ·have h2 := iteBF h1 hb
  refine rl.run 1 rfl (rl.done (RW.cond_t rfl (RW.sreg (rl.run 1 rfl (rl.done (RW.ret ?_))))))
  cases h2
  exact RRet.mk rfl .bool (by first | decide | simp)
 ·have h3 := iteBT h1 hb
  refine rl.run 1 rfl (rl.done (RW.cond_f rfl (RW.skip (RW.sreg (rl.run 3 rfl (rl.done (RW.sreg (rl.run 4 rfl (rl.done (RW.sreg (rl.run 1 rfl ?_)))))))))))
  refine rl.done (RW.seq (RW.seq ?_))
  obtain ⟨y2, ey2, h4⟩ := bindS h3
  refine RW.cutq (σ := Bool) (fun y2 => [(1, .ptr 0 0), (3, .ptr 1 0), (4, .bool true), (24, .bool y2)]) (fun y2 => [some ⟨[.int .i64 x0.Kind, .int .i64 x0.Valid, .int .i64 x0.Uid, .int .i64 x0.Next, .int .i64 x0.Flags, .str x0.User, .str x0.Name, .str x0.Text], 0⟩, some ⟨[.int .i64 0, .int .i64 0, .int .i64 x0.Uid, .int .i64 x0.Next, .int .i64 x0.Flags, .str x0.User, .str x0.Name, .str x0.Text], 0⟩]) (fun y => y2 = y) (fun _ _ _ _ g h => RW.gh g h) ?_ ?_
  ·refine RW.reg ?_
   refine rl.run 2 rfl ?_
   refine rl.gen rfl rfl fun b hb => ?_
   cases b
   ·have h5 := iteBF ey2 hb
    refine rl.run 3 rfl ?_
    refine rl.gen rfl rfl fun b hb => ?_
    cases b
    ·have h6 := iteBF h5 hb
     refine rl.run 4 rfl ?_
     refine rl.gen rfl rfl fun b hb => ?_
     cases b
     ·have h7 := iteBF h6 hb
      refine rl.run 1 rfl (rl.done ?_)
      cases h7
      exact ⟨_, rfl, (Gh.ren0 [0, 1] (.cells rfl rfl (.keep .int (.keep .int (.keep .int (.keep .int (.keep .int (.keep .str (.keep .str (.keep .str .nil)))))))) (.cells rfl rfl (.keep .int (.keep .int (.keep .int (.keep .int (.keep .int (.keep .str (.keep .str (.keep .str .nil)))))))) .nil)) rfl (.cons rfl (.ptr rfl) (.cons rfl (.ptr rfl) (.cons rfl (.dat .bool) (.cons rfl (.dat .bool) .nil)))))⟩
     ·have h8 := iteBT h6 hb
      refine rl.run 1 rfl (rl.done ?_)
      cases h8
      exact ⟨_, rfl, (Gh.ren0 [0, 1] (.cells rfl rfl (.keep .int (.keep .int (.keep .int (.keep .int (.keep .int (.keep .str (.keep .str (.keep .str .nil)))))))) (.cells rfl rfl (.keep .int (.keep .int (.keep .int (.keep .int (.keep .int (.keep .str (.keep .str (.keep .str .nil)))))))) .nil)) rfl (.cons rfl (.ptr rfl) (.cons rfl (.ptr rfl) (.cons rfl (.dat .bool) (.cons rfl (.dat .bool) .nil)))))⟩
    ·have h9 := iteBT h5 hb
     refine rl.run 6 rfl (rl.done ?_)
     cases h9
     exact ⟨_, rfl, (Gh.ren0 [0, 1] (.cells rfl rfl (.keep .int (.keep .int (.keep .int (.keep .int (.keep .int (.keep .str (.keep .str (.keep .str .nil)))))))) (.cells rfl rfl (.keep .int (.keep .int (.keep .int (.keep .int (.keep .int (.keep .str (.keep .str (.keep .str .nil)))))))) .nil)) rfl (.cons rfl (.ptr rfl) (.cons rfl (.ptr rfl) (.cons rfl (.dat .bool) (.cons rfl (.dat .bool) .nil)))))⟩
   ·have h10 := iteBT ey2 hb
    refine rl.run 10 rfl (rl.done ?_)
    cases h10
    exact ⟨_, rfl, (Gh.ren0 [0, 1] (.cells rfl rfl (.keep .int (.keep .int (.keep .int (.keep .int (.keep .int (.keep .str (.keep .str (.keep .str .nil)))))))) (.cells rfl rfl (.keep .int (.keep .int (.keep .int (.keep .int (.keep .int (.keep .str (.keep .str (.keep .str .nil)))))))) .nil)) rfl (.cons rfl (.ptr rfl) (.cons rfl (.ptr rfl) (.cons rfl (.dat .bool) (.cons rfl (.dat .bool) .nil)))))⟩
  ·intro y hC
   subst hC
   obtain ⟨y3, ey3, h11⟩ := bindS h4
   refine RW.cutq (σ := Bool × Int) (fun y3 => [(1, .ptr 0 0), (3, .ptr 1 0), (4, .bool y3.1)]) (fun y3 => [some ⟨[.int .i64 x0.Kind, .int .i64 x0.Valid, .int .i64 x0.Uid, .int .i64 x0.Next, .int .i64 x0.Flags, .str x0.User, .str x0.Name, .str x0.Text], 0⟩, some ⟨[.int .i64 0, .int .i64 0, .int .i64 y3.2, .int .i64 x0.Next, .int .i64 x0.Flags, .str x0.User, .str x0.Name, .str x0.Text], 0⟩]) (fun y => y3 = y) (fun _ _ _ _ g h => RW.gh g h) ?_ ?_
   ·cases hb : y2
    ·have h12 := iteBF ey3 hb
     refine RW.cond_f rfl (RW.skip ?_)
     cases h12
     exact ⟨_, rfl, (Gh.ren0 [0, 1] (.cells rfl rfl (.keep .int (.keep .int (.keep .int (.keep .int (.keep .int (.keep .str (.keep .str (.keep .str .nil)))))))) (.cells rfl rfl (.keep .int (.keep .int (.keep .int (.keep .int (.keep .int (.keep .str (.keep .str (.keep .str .nil)))))))) .nil)) rfl (.cons rfl (.ptr rfl) (.cons rfl (.ptr rfl) (.cons rfl (.dat .bool) .nil))))⟩
    ·have h13 := iteBT ey3 hb
     refine RW.cond_t rfl (RW.sreg (rl.run 2 rfl ?_))
     obtain ⟨v4, e4, h14⟩ := bindS h13
     refine rl.call rfl rfl rfl (CallW.val (r' := .bool v4) ok_impl_in (law_impl_in e4) (.cons .int (.cons .int (.cons .int .nil))) .refl ?_)
     cases hb : v4
     ·have h15 := iteBF h14 hb
      refine rl.run 1 rfl (rl.done (RW.reg (rl.run 2 rfl (rl.done ?_))))
      cases h15
      exact ⟨_, rfl, (Gh.ren0 [0, 1] (.cells rfl rfl (.keep .int (.keep .int (.keep .int (.keep .int (.keep .int (.keep .str (.keep .str (.keep .str .nil)))))))) (.cells rfl rfl (.keep .int (.keep .int (.keep .int (.keep .int (.keep .int (.keep .str (.keep .str (.keep .str .nil)))))))) .nil)) rfl (.cons rfl (.ptr rfl) (.cons rfl (.ptr rfl) (.cons rfl (.dat .bool) .nil))))⟩
     ·have h16 := iteBT h14 hb
      refine rl.run 1 rfl (rl.done (RW.reg (rl.run 2 rfl (rl.done ?_))))
      cases h16
      exact ⟨_, rfl, (Gh.ren0 [0, 1] (.cells rfl rfl (.keep .int (.keep .int (.keep .int (.keep .int (.keep .int (.keep .str (.keep .str (.keep .str .nil)))))))) (.cells rfl rfl (.keep .int (.keep .int (.keep .int (.keep .int (.keep .int (.keep .str (.keep .str (.keep .str .nil)))))))) .nil)) rfl (.cons rfl (.ptr rfl) (.cons rfl (.ptr rfl) (.cons rfl (.dat .bool) .nil))))⟩
   ·intro y hC
    subst hC
    refine RW.seq (RW.seq ?_)
    obtain ⟨y5, ey5, h17⟩ := bindS h11
    refine RW.cutq (σ := Bool) (fun y5 => [(1, .ptr 0 0), (3, .ptr 1 0), (4, .bool y3.1), (36, .bool y5)]) (fun y5 => [some ⟨[.int .i64 x0.Kind, .int .i64 x0.Valid, .int .i64 x0.Uid, .int .i64 x0.Next, .int .i64 x0.Flags, .str x0.User, .str x0.Name, .str x0.Text], 0⟩, some ⟨[.int .i64 0, .int .i64 0, .int .i64 y3.2, .int .i64 x0.Next, .int .i64 x0.Flags, .str x0.User, .str x0.Name, .str x0.Text], 0⟩]) (fun y => y5 = y) (fun _ _ _ _ g h => RW.gh g h) ?_ ?_
    ·refine RW.reg ?_
     refine rl.run 2 rfl ?_
     refine rl.gen rfl rfl fun b hb => ?_
     cases b
     ·have h18 := iteBF ey5 hb
      refine rl.run 3 rfl ?_
      refine rl.gen rfl rfl fun b hb => ?_
      cases b
      ·have h19 := iteBF h18 hb
       refine rl.run 1 rfl (rl.done ?_)
       cases h19
       exact ⟨_, rfl, (Gh.ren0 [0, 1] (.cells rfl rfl (.keep .int (.keep .int (.keep .int (.keep .int (.keep .int (.keep .str (.keep .str (.keep .str .nil)))))))) (.cells rfl rfl (.keep .int (.keep .int (.keep .int (.keep .int (.keep .int (.keep .str (.keep .str (.keep .str .nil)))))))) .nil)) rfl (.cons rfl (.ptr rfl) (.cons rfl (.ptr rfl) (.cons rfl (.dat .bool) (.cons rfl (.dat .bool) .nil)))))⟩
      ·have h20 := iteBT h18 hb
       refine rl.run 1 rfl (rl.done ?_)
       cases h20
       exact ⟨_, rfl, (Gh.ren0 [0, 1] (.cells rfl rfl (.keep .int (.keep .int (.keep .int (.keep .int (.keep .int (.keep .str (.keep .str (.keep .str .nil)))))))) (.cells rfl rfl (.keep .int (.keep .int (.keep .int (.keep .int (.keep .int (.keep .str (.keep .str (.keep .str .nil)))))))) .nil)) rfl (.cons rfl (.ptr rfl) (.cons rfl (.ptr rfl) (.cons rfl (.dat .bool) (.cons rfl (.dat .bool) .nil)))))⟩
     ·have h21 := iteBT ey5 hb
      refine rl.run 5 rfl (rl.done ?_)
      cases h21
      exact ⟨_, rfl, (Gh.ren0 [0, 1] (.cells rfl rfl (.keep .int (.keep .int (.keep .int (.keep .int (.keep .int (.keep .str (.keep .str (.keep .str .nil)))))))) (.cells rfl rfl (.keep .int (.keep .int (.keep .int (.keep .int (.keep .int (.keep .str (.keep .str (.keep .str .nil)))))))) .nil)) rfl (.cons rfl (.ptr rfl) (.cons rfl (.ptr rfl) (.cons rfl (.dat .bool) (.cons rfl (.dat .bool) .nil)))))⟩
    ·intro y hC
     subst hC
     obtain ⟨y6, ey6, h22⟩ := bindS h17
     refine RW.cutq (σ := Bool × Int) (fun y6 => [(1, .ptr 0 0), (3, .ptr 1 0), (4, .bool y6.1)]) (fun y6 => [some ⟨[.int .i64 x0.Kind, .int .i64 x0.Valid, .int .i64 x0.Uid, .int .i64 x0.Next, .int .i64 x0.Flags, .str x0.User, .str x0.Name, .str x0.Text], 0⟩, some ⟨[.int .i64 0, .int .i64 0, .int .i64 y3.2, .int .i64 x0.Next, .int .i64 y6.2, .str x0.User, .str x0.Name, .str x0.Text], 0⟩]) (fun y => y6 = y) (fun _ _ _ _ g h => RW.gh g h) ?_ ?_
     ·cases hb : y5
      ·have h23 := iteBF ey6 hb
       refine RW.cond_f rfl (RW.skip ?_)
       cases h23
       exact ⟨_, rfl, (Gh.ren0 [0, 1] (.cells rfl rfl (.keep .int (.keep .int (.keep .int (.keep .int (.keep .int (.keep .str (.keep .str (.keep .str .nil)))))))) (.cells rfl rfl (.keep .int (.keep .int (.keep .int (.keep .int (.keep .int (.keep .str (.keep .str (.keep .str .nil)))))))) .nil)) rfl (.cons rfl (.ptr rfl) (.cons rfl (.ptr rfl) (.cons rfl (.dat .bool) .nil))))⟩
      ·have h24 := iteBT ey6 hb
       refine RW.cond_t rfl (RW.seq ?_)
       obtain ⟨y7, ey7, h25⟩ := bindS h24
       refine RW.cutq (σ := Bool) (fun y7 => [(1, .ptr 0 0), (3, .ptr 1 0), (4, .bool y7)]) (fun y7 => [some ⟨[.int .i64 x0.Kind, .int .i64 x0.Valid, .int .i64 x0.Uid, .int .i64 x0.Next, .int .i64 x0.Flags, .str x0.User, .str x0.Name, .str x0.Text], 0⟩, some ⟨[.int .i64 0, .int .i64 0, .int .i64 y3.2, .int .i64 x0.Next, .int .i64 x0.Flags, .str x0.User, .str x0.Name, .str x0.Text], 0⟩]) (fun y => y7 = y) (fun _ _ _ _ g h => RW.gh g h) ?_ ?_
       ·refine RW.reg ?_
        refine rl.run 2 rfl ?_
        cases hb : y3.1
        ·have h26 := iteBF ey7 hb
         refine rl.run 5 rfl (rl.done ?_)
         cases h26
         exact ⟨_, rfl, (Gh.ren0 [0, 1] (.cells rfl rfl (.keep .int (.keep .int (.keep .int (.keep .int (.keep .int (.keep .str (.keep .str (.keep .str .nil)))))))) (.cells rfl rfl (.keep .int (.keep .int (.keep .int (.keep .int (.keep .int (.keep .str (.keep .str (.keep .str .nil)))))))) .nil)) rfl (.cons rfl (.ptr rfl) (.cons rfl (.ptr rfl) (.cons rfl (.dat .bool) .nil))))⟩
        ·have h27 := iteBT ey7 hb
         refine rl.run 2 rfl ?_
         obtain ⟨v8, e8, h28⟩ := bindS h27
         refine rl.call rfl rfl rfl (CallW.val (r' := .bool v8) ok_impl_in (law_impl_in e8) (.cons .int (.cons .int (.cons .int .nil))) .refl ?_)
         cases hb : v8
         ·have h29 := iteBF h28 hb
          refine rl.run 2 rfl (rl.done ?_)
          cases h29
          exact ⟨_, rfl, (Gh.ren0 [0, 1] (.cells rfl rfl (.keep .int (.keep .int (.keep .int (.keep .int (.keep .int (.keep .str (.keep .str (.keep .str .nil)))))))) (.cells rfl rfl (.keep .int (.keep .int (.keep .int (.keep .int (.keep .int (.keep .str (.keep .str (.keep .str .nil)))))))) .nil)) rfl (.cons rfl (.ptr rfl) (.cons rfl (.ptr rfl) (.cons rfl (.dat .bool) .nil))))⟩
         ·have h30 := iteBT h28 hb
          refine rl.run 2 rfl (rl.done ?_)
          cases h30
          exact ⟨_, rfl, (Gh.ren0 [0, 1] (.cells rfl rfl (.keep .int (.keep .int (.keep .int (.keep .int (.keep .int (.keep .str (.keep .str (.keep .str .nil)))))))) (.cells rfl rfl (.keep .int (.keep .int (.keep .int (.keep .int (.keep .int (.keep .str (.keep .str (.keep .str .nil)))))))) .nil)) rfl (.cons rfl (.ptr rfl) (.cons rfl (.ptr rfl) (.cons rfl (.dat .bool) .nil))))⟩
       ·intro y hC
        subst hC
        refine RW.reg (rl.run 2 rfl (rl.done ?_))
        cases h25
        exact ⟨_, rfl, (Gh.ren0 [0, 1] (.cells rfl rfl (.keep .int (.keep .int (.keep .int (.keep .int (.keep .int (.keep .str (.keep .str (.keep .str .nil)))))))) (.cells rfl rfl (.keep .int (.keep .int (.keep .int (.keep .int (.keep .int (.keep .str (.keep .str (.keep .str .nil)))))))) .nil)) rfl (.cons rfl (.ptr rfl) (.cons rfl (.ptr rfl) (.cons rfl (.dat .bool) .nil))))⟩
     ·intro y hC
      subst hC
      refine RW.seq (RW.sreg (rl.run 2 rfl (rl.done ?_)))
      obtain ⟨y9, ey9, h31⟩ := bindS h22
      refine RW.cutq (σ := Bool × Int × (List UInt8) × (List UInt8) × (List UInt8)) (fun y9 => [(3, .ptr 0 0), (4, .bool y9.1)]) (fun y9 => [some ⟨[.int .i64 0, .int .i64 0, .int .i64 y3.2, .int .i64 y9.2.1, .int .i64 y6.2, .str y9.2.2.1, .str y9.2.2.2.1, .str y9.2.2.2.2], 0⟩]) (fun y => y9 = .inr y) (fun _ _ _ _ g h => RW.gh g h) ?_ ?_
      ·refine RW.blk ?_
       refine RW.sreg ?_
       refine rl.gen rfl rfl fun b hb => ?_
       cases b
       ·have h32 := iteBF ey9 hb
        refine rl.run 1 rfl (rl.done (RW.cond_f rfl (RW.sreg ?_)))
        refine rl.gen rfl rfl fun b hb => ?_
        cases b
        ·have h33 := iteBF h32 hb
         refine rl.run 1 rfl (rl.done (RW.cond_f rfl (RW.seq (RW.sreg ?_))))
         refine rl.gen rfl rfl fun b hb => ?_
         cases b
         ·have h34 := iteBF h33 hb
          refine rl.run 1 rfl (rl.done (RW.cond_f rfl (RW.sreg ?_)))
          refine rl.gen rfl rfl fun b hb => ?_
          cases b
          ·have h35 := iteBF h34 hb
           refine rl.run 1 rfl (rl.done (RW.cond_f rfl (RW.reg ?_)))
           refine rl.gen rfl rfl fun b hb => ?_
           cases b
           ·have h36 := iteBF h35 hb
            refine rl.run 1 rfl (rl.done (RW.cond_f rfl (RW.sreg (rl.run 1 rfl (rl.done ?_)))))
            refine RW.keep [2] (a' := [(2, .bool false)]) (H' := [some ⟨[.int .i64 x0.Kind, .int .i64 x0.Valid, .int .i64 x0.Uid, .int .i64 x0.Next, .int .i64 x0.Flags, .str x0.User, .str x0.Name, .str x0.Text], 0⟩, some ⟨[.int .i64 0, .int .i64 0, .int .i64 y3.2, .int .i64 x0.Next, .int .i64 y6.2, .str x0.User, .str x0.Name, .str x0.Text], 0⟩]) rfl rfl ?_
            refine RW.ret ?_
            cases h36
            have h37 := elimL h31 rfl
            cases h37
            exact RRet.mk rfl .bool (by first | decide | simp)
           ·have h38 := iteBT h35 hb
            refine rl.run 1 rfl (rl.done (RW.cond_t rfl (RW.skip ?_)))
            cases h38
            exact ⟨_, rfl, (Gh.ren0 [1] (.cells rfl rfl (.keep .int (.keep .int (.keep .int (.keep .int (.keep .int (.keep .str (.keep .str (.keep .str .nil)))))))) .nil) rfl (.cons rfl (.ptr rfl) (.cons rfl (.dat .bool) .nil)))⟩
          ·have h39 := iteBT h34 hb
           refine rl.run 1 rfl (rl.done (RW.cond_t rfl (RW.skip (RW.cond_t rfl (RW.skip ?_)))))
           cases h39
           exact ⟨_, rfl, (Gh.ren0 [1] (.cells rfl rfl (.keep .int (.keep .int (.keep .int (.keep .int (.keep .int (.keep .str (.keep .str (.keep .str .nil)))))))) .nil) rfl (.cons rfl (.ptr rfl) (.cons rfl (.dat .bool) .nil)))⟩
         ·have h40 := iteBT h33 hb
          refine rl.run 1 rfl (rl.done (RW.cond_t rfl (RW.skip (RW.cond_t rfl (RW.skip ?_)))))
          cases h40
          exact ⟨_, rfl, (Gh.ren0 [1] (.cells rfl rfl (.keep .int (.keep .int (.keep .int (.keep .int (.keep .int (.keep .str (.keep .str (.keep .str .nil)))))))) .nil) rfl (.cons rfl (.ptr rfl) (.cons rfl (.dat .bool) .nil)))⟩
        ·have h41 := iteBT h32 hb
         refine rl.run 1 rfl (rl.done (RW.cond_t rfl (RW.seq ?_)))
         obtain ⟨y10, ey10, h42⟩ := bindS h41
         refine RW.cutq (σ := Bool) (fun y10 => [(3, .ptr 0 0), (4, .bool y10)]) (fun y10 => [some ⟨[.int .i64 0, .int .i64 0, .int .i64 y3.2, .int .i64 x0.Next, .int .i64 y6.2, .str x0.User, .str x0.Name, .str x0.Text], 0⟩]) (fun y => y10 = y) (fun _ _ _ _ g h => RW.gh g h) ?_ ?_
         ·refine RW.reg ?_
          refine rl.run 2 rfl ?_
          cases hb : y6.1
          ·have h43 := iteBF ey10 hb
           refine rl.run 6 rfl (rl.done ?_)
           cases h43
           exact ⟨_, rfl, (Gh.ren0 [1] (.cells rfl rfl (.keep .int (.keep .int (.keep .int (.keep .int (.keep .int (.keep .str (.keep .str (.keep .str .nil)))))))) .nil) rfl (.cons rfl (.ptr rfl) (.cons rfl (.dat .bool) .nil)))⟩
          ·have h44 := iteBT ey10 hb
           refine rl.run 3 rfl ?_
           refine rl.gen rfl rfl fun b hb => ?_
           cases b
           ·have h45 := iteBF h44 hb
            refine rl.run 2 rfl (rl.done ?_)
            cases h45
            exact ⟨_, rfl, (Gh.ren0 [1] (.cells rfl rfl (.keep .int (.keep .int (.keep .int (.keep .int (.keep .int (.keep .str (.keep .str (.keep .str .nil)))))))) .nil) rfl (.cons rfl (.ptr rfl) (.cons rfl (.dat .bool) .nil)))⟩
           ·have h46 := iteBT h44 hb
            refine rl.run 2 rfl (rl.done ?_)
            cases h46
            exact ⟨_, rfl, (Gh.ren0 [1] (.cells rfl rfl (.keep .int (.keep .int (.keep .int (.keep .int (.keep .int (.keep .str (.keep .str (.keep .str .nil)))))))) .nil) rfl (.cons rfl (.ptr rfl) (.cons rfl (.dat .bool) .nil)))⟩
         ·intro y hC
          subst hC
          refine RW.reg (rl.run 2 rfl (rl.done ?_))
          cases h42
          exact ⟨_, rfl, (Gh.ren0 [0] (.cells rfl rfl (.keep .int (.keep .int (.keep .int (.keep .int (.keep .int (.keep .str (.keep .str (.keep .str .nil)))))))) .nil) rfl (.cons rfl (.ptr rfl) (.cons rfl (.dat .bool) .nil)))⟩
       ·have h47 := iteBT ey9 hb
        refine rl.run 1 rfl (rl.done (RW.cond_t rfl (RW.seq ?_)))
        obtain ⟨y11, ey11, h48⟩ := bindS h47
        refine RW.cutq (σ := Bool) (fun y11 => [(3, .ptr 0 0), (4, .bool y11)]) (fun y11 => [some ⟨[.int .i64 0, .int .i64 0, .int .i64 y3.2, .int .i64 x0.Next, .int .i64 y6.2, .str x0.User, .str x0.Name, .str x0.Text], 0⟩]) (fun y => y11 = y) (fun _ _ _ _ g h => RW.gh g h) ?_ ?_
        ·refine RW.reg ?_
         refine rl.run 2 rfl ?_
         obtain ⟨v12, e12, h49⟩ := bindS ey11
         refine rl.call rfl rfl rfl (CallW.val (r' := .bool v12) ok_impl_WordOk (law_impl_WordOk e12) (.cons .str .nil) .refl ?_)
         cases hb : v12
         ·have h50 := iteBF h49 hb
          refine rl.run 11 rfl (rl.done ?_)
          cases h50
          exact ⟨_, rfl, (Gh.ren0 [1] (.cells rfl rfl (.keep .int (.keep .int (.keep .int (.keep .int (.keep .int (.keep .str (.keep .str (.keep .str .nil)))))))) .nil) rfl (.cons rfl (.ptr rfl) (.cons rfl (.dat .bool) .nil)))⟩
         ·have h51 := iteBT h49 hb
          refine rl.run 3 rfl ?_
          obtain ⟨v13, e13, h52⟩ := bindS h51
          refine rl.call rfl rfl rfl (CallW.val (r' := .bool v13) ok_impl_WordOk (law_impl_WordOk e13) (.cons .str .nil) .refl ?_)
          cases hb : v13
          ·have h53 := iteBF h52 hb
           refine rl.run 7 rfl (rl.done ?_)
           cases h53
           exact ⟨_, rfl, (Gh.ren0 [1] (.cells rfl rfl (.keep .int (.keep .int (.keep .int (.keep .int (.keep .int (.keep .str (.keep .str (.keep .str .nil)))))))) .nil) rfl (.cons rfl (.ptr rfl) (.cons rfl (.dat .bool) .nil)))⟩
          ·have h54 := iteBT h52 hb
           refine rl.run 4 rfl ?_
           obtain ⟨v14, e14, h55⟩ := bindS h54
           refine rl.call rfl rfl rfl (CallW.val (r' := .bool v14) ok_impl_in (law_impl_in e14) (.cons .int (.cons .int (.cons .int .nil))) .refl ?_)
           cases hb : v14
           ·have h56 := iteBF h55 hb
            refine rl.run 2 rfl (rl.done ?_)
            cases h56
            exact ⟨_, rfl, (Gh.ren0 [1] (.cells rfl rfl (.keep .int (.keep .int (.keep .int (.keep .int (.keep .int (.keep .str (.keep .str (.keep .str .nil)))))))) .nil) rfl (.cons rfl (.ptr rfl) (.cons rfl (.dat .bool) .nil)))⟩
           ·have h57 := iteBT h55 hb
            refine rl.run 2 rfl (rl.done ?_)
            cases h57
            exact ⟨_, rfl, (Gh.ren0 [1] (.cells rfl rfl (.keep .int (.keep .int (.keep .int (.keep .int (.keep .int (.keep .str (.keep .str (.keep .str .nil)))))))) .nil) rfl (.cons rfl (.ptr rfl) (.cons rfl (.dat .bool) .nil)))⟩
        ·intro y hC
         subst hC
         refine RW.reg (rl.run 6 rfl (rl.done ?_))
         cases h48
         exact ⟨_, rfl, (Gh.ren0 [0] (.cells rfl rfl (.keep .int (.keep .int (.keep .int (.keep .int (.keep .int (.keep .str (.keep .str (.keep .str .nil)))))))) .nil) rfl (.cons rfl (.ptr rfl) (.cons rfl (.dat .bool) .nil)))⟩
      ·intro y9_ hC
       have h31 := elimR h31 hC
       refine RW.sreg (rl.run 2 rfl ?_)
       cases hb : y9_.1
       ·have h58 := iteBF h31 hb
        refine rl.run 5 rfl (rl.done (RW.ret ?_))
        cases h58
        exact RRet.mk rfl .bool (by first | decide | simp)
       ·have h59 := iteBT h31 hb
        refine rl.run 5 rfl (rl.done (RW.ret ?_))
        cases h59
        exact RRet.mk rfl .bool (by first | decide | simp)
theorem law_impl_ItemsOk_1_w {x0 : TItem} {x1 : TItem} {r : Bool} (hF : F_impl_ItemsOk_1_w x0 x1 = some r) : ACalls Tryz.prog 1 159 [.agg (enc_TItem false x0), .ptr 0 0] [some ⟨[.int .i64 x1.Seq, .int .i64 x1.Rec.Kind, .int .i64 x1.Rec.Valid, .int .i64 x1.Rec.Uid, .int .i64 x1.Rec.Next, .int .i64 x1.Rec.Flags, .str x1.Rec.User, .str x1.Rec.Name, .str x1.Rec.Text], 0⟩] (.bool r) [some ⟨[.int .i64 x1.Seq, .int .i64 x1.Rec.Kind, .int .i64 x1.Rec.Valid, .int .i64 x1.Rec.Uid, .int .i64 x1.Rec.Next, .int .i64 x1.Rec.Flags, .str x1.Rec.User, .str x1.Rec.Name, .str x1.Rec.Text], 0⟩] := by
 refine ACalls.of_s k_impl_ItemsOk_1 rfl ?_
 unfold F_impl_ItemsOk_1_w at hF
 refine RW.sreg (rl.run 2 rfl (rl.done (RW.sreg (rl.run 4 rfl ?_))))
 refine rl.gen rfl rfl fun b hb => ?_
 cases b
 ·have h1 := iteBF hF hb
  refine rl.run 6 rfl (rl.done ?_)
  refine RW.keep [3] (a' := [(3, .bool false)]) (H' := [some ⟨[.int .i64 x1.Seq, .int .i64 x1.Rec.Kind, .int .i64 x1.Rec.Valid, .int .i64 x1.Rec.Uid, .int .i64 x1.Rec.Next, .int .i64 x1.Rec.Flags, .str x1.Rec.User, .str x1.Rec.Name, .str x1.Rec.Text], 0⟩, some ⟨[.int .i64 x0.Seq, .int .i64 x0.Rec.Kind, .int .i64 x0.Rec.Valid, .int .i64 x0.Rec.Uid, .int .i64 x0.Rec.Next, .int .i64 x0.Rec.Flags, .str x0.Rec.User, .str x0.Rec.Name, .str x0.Rec.Text], 0⟩]) rfl rfl ?_
  refine RW.ret ?_
  cases h1
  exact RRetS.mk rfl .bool (Gh.renN [0] (.cells rfl rfl (.keep .int (.keep .int (.keep .int (.keep .int (.keep .int (.keep .int (.keep .str (.keep .str (.keep .str .nil))))))))) .nil) rfl rfl rfl .nil)
 ·have h2 := iteBT hF hb
  refine rl.run 6 rfl (rl.done ?_)
  refine RW.keep [3] (a' := [(3, .bool (!(x0.Seq == x1.Seq && (x0.Rec.Kind == x1.Rec.Kind && (x0.Rec.Valid == x1.Rec.Valid && (x0.Rec.Uid == x1.Rec.Uid && (x0.Rec.Next == x1.Rec.Next && (x0.Rec.Flags == x1.Rec.Flags && (x0.Rec.User == x1.Rec.User && (x0.Rec.Name == x1.Rec.Name && (x0.Rec.Text == x1.Rec.Text && true)))))))))))]) (H' := [some ⟨[.int .i64 x1.Seq, .int .i64 x1.Rec.Kind, .int .i64 x1.Rec.Valid, .int .i64 x1.Rec.Uid, .int .i64 x1.Rec.Next, .int .i64 x1.Rec.Flags, .str x1.Rec.User, .str x1.Rec.Name, .str x1.Rec.Text], 0⟩, some ⟨[.int .i64 x0.Seq, .int .i64 x0.Rec.Kind, .int .i64 x0.Rec.Valid, .int .i64 x0.Rec.Uid, .int .i64 x0.Rec.Next, .int .i64 x0.Rec.Flags, .str x0.Rec.User, .str x0.Rec.Name, .str x0.Rec.Text], 0⟩]) rfl rfl ?_
  refine RW.ret ?_
  cases h2
  exact RRetS.mk rfl .bool (Gh.renN [0] (.cells rfl rfl (.keep .int (.keep .int (.keep .int (.keep .int (.keep .int (.keep .int (.keep .str (.keep .str (.keep .str .nil))))))))) .nil) rfl rfl rfl .nil)
theorem law_slices_IndexFunc_Item_ItemsOk_1 {x0 : List TItem} {x1 : TItem} {r : Int} (hF : F_slices_IndexFunc_Item_ItemsOk_1 x0 x1 = some r) : ACalls Tryz.prog 1 199 [.lst false 9 (fl (enc_TItem false) x0) x0.length, .fn 159 [.ptr 0 0]] [some ⟨[.int .i64 x1.Seq, .int .i64 x1.Rec.Kind, .int .i64 x1.Rec.Valid, .int .i64 x1.Rec.Uid, .int .i64 x1.Rec.Next, .int .i64 x1.Rec.Flags, .str x1.Rec.User, .str x1.Rec.Name, .str x1.Rec.Text], 0⟩] (.int .i64 r) [some ⟨[.int .i64 x1.Seq, .int .i64 x1.Rec.Kind, .int .i64 x1.Rec.Valid, .int .i64 x1.Rec.Uid, .int .i64 x1.Rec.Next, .int .i64 x1.Rec.Flags, .str x1.Rec.User, .str x1.Rec.Name, .str x1.Rec.Text], 0⟩] := by
 refine ACalls.of_s k_slices_IndexFunc_Item rfl ?_
 unfold F_slices_IndexFunc_Item_ItemsOk_1 at hF
 refine RW.sreg (rl.run 1 rfl (rl.done (RW.seq (RW.sreg (rl.run 3 rfl (rl.done ?_))))))
 obtain ⟨y5, ey5, h2⟩ := bindS hF
 refine RW.cutq (σ := Unit) (fun y2 => []) (fun y2 => [some ⟨[.int .i64 x1.Seq, .int .i64 x1.Rec.Kind, .int .i64 x1.Rec.Valid, .int .i64 x1.Rec.Uid, .int .i64 x1.Rec.Next, .int .i64 x1.Rec.Flags, .str x1.Rec.User, .str x1.Rec.Name, .str x1.Rec.Text], 0⟩]) (fun y => y5 = .inr y) (fun _ _ _ _ g h => RW.gh g h) ?_ ?_
 ·refine RW.blk ?_
  refine RW.iter (σ := Int) ey5 (fun s1 => [(0, .lst false 9 (fl (enc_TItem false) x0) x0.length), (1, .fn 159 [.ptr 0 0]), (7, .int .i64 (x0.length : Int)), (8, .int .i64 s1)]) (fun s1 => [some ⟨[.int .i64 x1.Seq, .int .i64 x1.Rec.Kind, .int .i64 x1.Rec.Valid, .int .i64 x1.Rec.Uid, .int .i64 x1.Rec.Next, .int .i64 x1.Rec.Flags, .str x1.Rec.User, .str x1.Rec.Name, .str x1.Rec.Text], 0⟩]) (Gh.renN [0] (.cells rfl rfl (.keep .int (.keep .int (.keep .int (.keep .int (.keep .int (.keep .int (.keep .str (.keep .str (.keep .str .nil))))))))) .nil) rfl rfl rfl (.cons rfl (.dat (ek_TItem.rlst)) (.cons rfl (RnL.fn (.cons (.ptr rfl) .nil)) (.cons rfl (.dat .int) (.cons rfl (.dat .int) .nil))))) (fun s1 B o hS1 hB1 hE1 => ?_)
  unfold S_slices_IndexFunc_Item_ItemsOk_1_1 at hS1
  refine RW.sreg ?_
  refine rl.gen rfl rfl fun b hb => ?_
  cases b
  ·have h3 := iteBF hS1 hb
   refine rl.done (RW.seq (RW.cond_f rfl (RW.exit (blkA_eq ?_))))
   cases h3
   exact ⟨_, (hE1 _ rfl).symm, (Gh.renN [0] (.cells rfl rfl (.keep .int (.keep .int (.keep .int (.keep .int (.keep .int (.keep .int (.keep .str (.keep .str (.keep .str .nil))))))))) .nil) rfl rfl rfl .nil)⟩
  ·have h4 := iteBT hS1 hb
   refine rl.done (RW.seq (RW.cond_t rfl (RW.skip (RW.seq (RW.blk (RW.sreg (rl.run 2 rfl (rl.done (RW.sreg (rl.run 3 rfl ?_))))))))))
   obtain ⟨v3, e3, h5⟩ := bindS h4
   refine rl.op (x_ia_lst (enc := enc_TItem) (o := false) rfl rfl rfl e3) ?_
   refine rl.op (x_ld_ela (off' := 0) (vs := (enc_TItem false v3)) ek_TItem rfl e3 rfl rfl rfl) ?_
   obtain ⟨v4, e4, h6⟩ := bindS h5
   refine rl.call rfl rfl rfl (CallW.embR [0] ok_impl_ItemsOk_1 (law_impl_ItemsOk_1_w e4) (.cells rfl rfl (.keep .int (.keep .int (.keep .int (.keep .int (.keep .int (.keep .int (.keep .str (.keep .str (.keep .str .nil))))))))) .nil) rfl rfl (.cons (.dat (ek_TItem.rrec)) (.cons (.ptr rfl) .nil)) .bool ?_)
   cases hb : v4
   ·have h7 := iteBF h6 hb
    refine rl.done (RW.cond_f rfl (RW.skip (RW.reg (rl.run 2 rfl (rl.done ?_)))))
    cases h7
    exact hB1 _ rfl _ _ (Gh.renN [0] (.cells rfl rfl (.keep .int (.keep .int (.keep .int (.keep .int (.keep .int (.keep .int (.keep .str (.keep .str (.keep .str .nil))))))))) .nil) rfl rfl rfl (.cons rfl (.dat (ek_TItem.rlst)) (.cons rfl (RnL.fn (.cons (.ptr rfl) .nil)) (.cons rfl (.dat .int) (.cons rfl (.dat .int) .nil)))))
   ·have h8 := iteBT h6 hb
    refine rl.done (RW.cond_t rfl (RW.sreg (rl.run 2 rfl (rl.done ?_))))
    refine RW.keep [4] (a' := [(4, .int .i64 s1)]) (H' := [some ⟨[.int .i64 x1.Seq, .int .i64 x1.Rec.Kind, .int .i64 x1.Rec.Valid, .int .i64 x1.Rec.Uid, .int .i64 x1.Rec.Next, .int .i64 x1.Rec.Flags, .str x1.Rec.User, .str x1.Rec.Name, .str x1.Rec.Text], 0⟩]) rfl rfl ?_
    refine RW.ret ?_
    cases h8
    have h9 := elimL h2 (hE1 _ rfl)
    cases h9
    exact RRetS.mk rfl .int (Gh.renN [0] (.cells rfl rfl (.keep .int (.keep .int (.keep .int (.keep .int (.keep .int (.keep .int (.keep .str (.keep .str (.keep .str .nil))))))))) .nil) rfl rfl rfl .nil)
 ·intro y2 hC
  have h2 := elimR h2 hC
  refine RW.sreg (rl.run 1 rfl (rl.done (RW.ret ?_)))
  cases h2
  exact RRetS.mk rfl .int (Gh.renN [0] (.cells rfl rfl (.keep .int (.keep .int (.keep .int (.keep .int (.keep .int (.keep .int (.keep .str (.keep .str (.keep .str .nil))))))))) .nil) rfl rfl rfl .nil)
theorem law_slices_ContainsFunc_Item_ItemsOk_1 {x0 : List TItem} {x1 : TItem} {r : Bool} (hF : F_slices_ContainsFunc_Item_ItemsOk_1 x0 x1 = some r) : ACalls Tryz.prog 1 158 [.lst false 9 (fl (enc_TItem false) x0) x0.length, .fn 159 [.ptr 0 0]] [some ⟨[.int .i64 x1.Seq, .int .i64 x1.Rec.Kind, .int .i64 x1.Rec.Valid, .int .i64 x1.Rec.Uid, .int .i64 x1.Rec.Next, .int .i64 x1.Rec.Flags, .str x1.Rec.User, .str x1.Rec.Name, .str x1.Rec.Text], 0⟩] (.bool r) [some ⟨[.int .i64 x1.Seq, .int .i64 x1.Rec.Kind, .int .i64 x1.Rec.Valid, .int .i64 x1.Rec.Uid, .int .i64 x1.Rec.Next, .int .i64 x1.Rec.Flags, .str x1.Rec.User, .str x1.Rec.Name, .str x1.Rec.Text], 0⟩] := by
 refine ACalls.of_s k_slices_ContainsFunc_Item rfl ?_
 unfold F_slices_ContainsFunc_Item_ItemsOk_1 at hF
 refine RW.sreg (rl.run 1 rfl (rl.done (RW.sreg (rl.run 2 rfl ?_))))
 obtain ⟨v1, e1, h1⟩ := bindS hF
 refine rl.call rfl rfl rfl (CallW.embR [0] ok_slices_IndexFunc_Item (law_slices_IndexFunc_Item_ItemsOk_1 e1) (.cells rfl rfl (.keep .int (.keep .int (.keep .int (.keep .int (.keep .int (.keep .int (.keep .str (.keep .str (.keep .str .nil))))))))) .nil) rfl rfl (.cons (.dat (ek_TItem.rlst)) (.cons (RnL.fn (.cons (.ptr rfl) .nil)) .nil)) .int ?_)
 refine rl.run 2 rfl (rl.done (RW.ret ?_))
 cases h1
 exact RRetS.mk rfl .bool (Gh.renN [0] (.cells rfl rfl (.keep .int (.keep .int (.keep .int (.keep .int (.keep .int (.keep .int (.keep .str (.keep .str (.keep .str .nil))))))))) .nil) rfl rfl rfl .nil)
set_option maxHeartbeats 2000000 in
theorem law_impl_ItemsOk {x0 : List TItem} {r : Bool} (hF : F_impl_ItemsOk x0 = some r) : PCalls Tryz.prog 101 [.lst false 9 (fl (enc_TItem false) x0) x0.length] (.bool r) := by
 refine PCalls.of_r k_impl_ItemsOk rfl ?_
 unfold F_impl_ItemsOk at hF
 refine RW.sreg (rl.run 1 rfl (rl.done (RW.seq (RW.sreg (rl.run 2 rfl ?_)))))
 refine rl.gen rfl rfl fun b hb => ?_
 cases b
 ·have h1 := iteBF hF hb
  refine rl.done (RW.cond_f rfl (RW.skip (RW.seq (RW.sreg (rl.run 3 rfl (rl.done ?_))))))
  obtain ⟨y9, ey9, h3⟩ := bindS h1
  refine RW.cutq (σ := Unit) (fun y2 => []) (fun y2 => []) (fun y => y9 = .inr y) (fun _ _ _ _ g h => RW.gh g h) ?_ ?_
  ·refine RW.blk ?_
   refine RW.iter (σ := Int) ey9 (fun s1 => [(0, .lst false 9 (fl (enc_TItem false) x0) x0.length), (8, .lst false 9 (fl (enc_TItem false) x0) x0.length), (9, .int .i64 (x0.length : Int)), (10, .int .i64 s1)]) (fun s1 => []) (Gh.ren0 [] .nil rfl (.cons rfl (.dat (ek_TItem.rlst)) (.cons rfl (.dat (ek_TItem.rlst)) (.cons rfl (.dat .int) (.cons rfl (.dat .int) .nil))))) (fun s1 B o hS2 hB2 hE2 => ?_)
   unfold S_impl_ItemsOk_1 at hS2
   refine RW.sreg ?_
   refine rl.gen rfl rfl fun b hb => ?_
   cases b
   ·have h4 := iteBF hS2 hb
    refine rl.done (RW.seq (RW.cond_f rfl (RW.exit (blkA_eq ?_))))
    cases h4
    exact ⟨_, (hE2 _ rfl).symm, (Gh.ren0 [] .nil rfl .nil)⟩
   ·have h5 := iteBT hS2 hb
    refine rl.done (RW.seq (RW.cond_t rfl (RW.skip (RW.seq (RW.blk (RW.sreg (rl.run 1 rfl ?_)))))))
    obtain ⟨v3, e3, h6⟩ := bindS h5
    refine rl.op (x_ia_lst (enc := enc_TItem) (o := false) rfl rfl rfl e3) ?_
    refine rl.op (x_ld_ela (off' := 0) (vs := (enc_TItem false v3)) ek_TItem rfl e3 rfl rfl rfl) ?_
    refine rl.run 3 rfl (rl.done (RW.seq (RW.seq ?_)))
    obtain ⟨y4, ey4, h7⟩ := bindS h6
    refine RW.cutq (σ := Bool) (fun y4 => [(0, .lst false 9 (fl (enc_TItem false) x0) x0.length), (3, .int .i64 s1), (4, .ptr 0 0), (8, .lst false 9 (fl (enc_TItem false) x0) x0.length), (9, .int .i64 (x0.length : Int)), (10, .int .i64 s1), (24, .bool y4)]) (fun y4 => [some ⟨[.int .i64 v3.Seq, .int .i64 v3.Rec.Kind, .int .i64 v3.Rec.Valid, .int .i64 v3.Rec.Uid, .int .i64 v3.Rec.Next, .int .i64 v3.Rec.Flags, .str v3.Rec.User, .str v3.Rec.Name, .str v3.Rec.Text], 0⟩]) (fun y => y4 = y) (fun _ _ _ _ g h => RW.gh g h) ?_ ?_
    ·refine RW.reg ?_
     refine rl.run 2 rfl ?_
     obtain ⟨v5, e5, h8⟩ := bindS ey4
     refine rl.call rfl rfl rfl (CallW.val (r' := .bool v5) ok_impl_in (law_impl_in e5) (.cons .int (.cons .int (.cons .int .nil))) .refl ?_)
     cases hb : v5
     ·have h9 := iteBF h8 hb
      refine rl.run 7 rfl (rl.done ?_)
      cases h9
      exact ⟨_, rfl, (Gh.ren0 [0] (.cells rfl rfl (.keep .int (.keep .int (.keep .int (.keep .int (.keep .int (.keep .int (.keep .str (.keep .str (.keep .str .nil))))))))) .nil) rfl (.cons rfl (.dat (ek_TItem.rlst)) (.cons rfl (.dat .int) (.cons rfl (.ptr rfl) (.cons rfl (.dat (ek_TItem.rlst)) (.cons rfl (.dat .int) (.cons rfl (.dat .int) (.cons rfl (.dat .bool) .nil))))))))⟩
     ·have h10 := iteBT h8 hb
      refine rl.run 4 rfl ?_
      obtain ⟨v6, e6, h11⟩ := bindS h10
      refine rl.call rfl rfl rfl (CallW.val (r' := .bool v6) ok_impl_RecOk (law_impl_RecOk e6) (.cons (DFL.agg (.cons .int (.cons .int (.cons .int (.cons .int (.cons .int (.cons .str (.cons .str (.cons .str .nil))))))))) .nil) .refl ?_)
      cases hb : v6
      ·have h12 := iteBF h11 hb
       refine rl.run 2 rfl (rl.done ?_)
       cases h12
       exact ⟨_, rfl, (Gh.ren0 [0] (.cells rfl rfl (.keep .int (.keep .int (.keep .int (.keep .int (.keep .int (.keep .int (.keep .str (.keep .str (.keep .str .nil))))))))) .nil) rfl (.cons rfl (.dat (ek_TItem.rlst)) (.cons rfl (.dat .int) (.cons rfl (.ptr rfl) (.cons rfl (.dat (ek_TItem.rlst)) (.cons rfl (.dat .int) (.cons rfl (.dat .int) (.cons rfl (.dat .bool) .nil))))))))⟩
      ·have h13 := iteBT h11 hb
       refine rl.run 2 rfl (rl.done ?_)
       cases h13
       exact ⟨_, rfl, (Gh.ren0 [0] (.cells rfl rfl (.keep .int (.keep .int (.keep .int (.keep .int (.keep .int (.keep .int (.keep .str (.keep .str (.keep .str .nil))))))))) .nil) rfl (.cons rfl (.dat (ek_TItem.rlst)) (.cons rfl (.dat .int) (.cons rfl (.ptr rfl) (.cons rfl (.dat (ek_TItem.rlst)) (.cons rfl (.dat .int) (.cons rfl (.dat .int) (.cons rfl (.dat .bool) .nil))))))))⟩
    ·intro y hC
     subst hC
     cases hb : y4
     ·have h14 := iteBF h7 hb
      refine RW.cond_f rfl (RW.skip (RW.sreg (rl.run 2 rfl ?_)))
      obtain ⟨v7, e7, h15⟩ := bindS h14
      refine rl.op (x_sle ek_TItem rfl rfl rfl abnd_hi e7) ?_
      refine rl.run 1 rfl ?_
      obtain ⟨v8, e8, h16⟩ := bindS h15
      refine rl.call rfl rfl rfl (CallW.embR [0] ok_slices_ContainsFunc_Item (law_slices_ContainsFunc_Item_ItemsOk_1 e8) (.cells rfl rfl (.keep .int (.keep .int (.keep .int (.keep .int (.keep .int (.keep .int (.keep .str (.keep .str (.keep .str .nil))))))))) .nil) rfl rfl (.cons (.dat (ek_TItem.rlst)) (.cons (RnL.fn (.cons (.ptr rfl) .nil)) .nil)) .bool ?_)
      cases hb : v8
      ·have h17 := iteBF h16 hb
       refine rl.done (RW.cond_f rfl (RW.skip (RW.reg (rl.run 2 rfl (rl.done ?_)))))
       cases h17
       exact hB2 _ rfl _ _ (Gh.ren0 [] .nil rfl (.cons rfl (.dat (ek_TItem.rlst)) (.cons rfl (.dat (ek_TItem.rlst)) (.cons rfl (.dat .int) (.cons rfl (.dat .int) .nil)))))
      ·have h18 := iteBT h16 hb
       refine rl.done (RW.cond_t rfl (RW.sreg (rl.run 1 rfl (rl.done ?_))))
       refine RW.keep [2] (a' := [(2, .bool false)]) (H' := [some ⟨[.int .i64 v3.Seq, .int .i64 v3.Rec.Kind, .int .i64 v3.Rec.Valid, .int .i64 v3.Rec.Uid, .int .i64 v3.Rec.Next, .int .i64 v3.Rec.Flags, .str v3.Rec.User, .str v3.Rec.Name, .str v3.Rec.Text], 0⟩]) rfl rfl ?_
       refine RW.ret ?_
       cases h18
       have h19 := elimL h3 (hE2 _ rfl)
       cases h19
       exact RRet.mk rfl .bool (by first | decide | simp)
     ·have h20 := iteBT h7 hb
      refine RW.cond_t rfl (RW.sreg (rl.run 1 rfl (rl.done (RW.ret ?_))))
      cases h20
      have h21 := elimL h3 (hE2 _ rfl)
      cases h21
      exact RRet.mk rfl .bool (by first | decide | simp)
  ·intro y2 hC
   have h3 := elimR h3 hC
   refine RW.sreg (rl.run 1 rfl (rl.done (RW.ret ?_)))
   cases h3
   exact RRet.mk rfl .bool (by first | decide | simp)
 ·have h22 := iteBT hF hb
  refine rl.done (RW.cond_t rfl (RW.sreg (rl.run 1 rfl (rl.done (RW.ret ?_)))))
  cases h22
  exact RRet.mk rfl .bool (by first | decide | simp)
theorem law_impl_StateOf_1 {x0 : TRec} {r : Int × Bool} (hF : F_impl_StateOf_1 x0 = some r) : PCalls Tryz.prog 103 [.agg (enc_TRec false x0)] (.tup [.int .i64 r.1, .bool r.2]) := by
 refine PCalls.of_r k_impl_StateOf_1 rfl ?_
 unfold F_impl_StateOf_1 at hF
 refine RW.sreg (rl.run 3 rfl (rl.done (RW.sdrw (rdraw.op rfl rfl (rdraw.op rfl rfl (rdraw.op rfl rfl (rdraw.op rfl rfl (rdraw.op rfl rfl (rdraw.op rfl rfl (rdraw.op rfl rfl (rdraw.done ?_)))))))))))
 refine RW.ret ?_
 cases hF
 exact RRet.mk rfl (OutT.tup (.cons .int (.cons .bool .nil))) (by first | decide | simp)
theorem law_impl_numbers_StateOf_1 {x0 : List TItem} {r : List Int} (hF : F_impl_numbers_StateOf_1 x0 = some r) : PCalls Tryz.prog 102 [.lst false 9 (fl (enc_TItem false) x0) x0.length, .fn 103 []] (.lst true 1 (fl (encI true) r) r.length) := by
 refine PCalls.of_r k_impl_numbers rfl ?_
 unfold F_impl_numbers_StateOf_1 at hF
 refine RW.sreg (rl.run 1 rfl (rl.done (RW.sreg (rl.run 2 rfl (rl.done (RW.seq (RW.sreg (rl.run 3 rfl (rl.done ?_)))))))))
 refine RW.gh (Gh.nil_t 5 1 rfl) ?_
 obtain ⟨y6, ey6, h2⟩ := bindS hF
 refine RW.cutq (σ := (List Int)) (fun y2 => [(5, .sl 0 0 y2.length)]) (fun y2 => [some ⟨fl (encI true) y2, 1⟩]) (fun y => y6 = y) (fun _ _ _ _ g h => RW.gh g h) ?_ ?_
 ·refine RW.blk ?_
  refine RW.iter (σ := Int × (List Int)) ey6 (fun s1 => [(1, .fn 103 []), (5, .sl 0 0 s1.2.length), (11, .lst false 9 (fl (enc_TItem false) x0) x0.length), (12, .int .i64 (x0.length : Int)), (13, .int .i64 s1.1)]) (fun s1 => [some ⟨fl (encI true) s1.2, 1⟩]) (Gh.ren0 [0] (.same rfl (ekI.fref _ _) .nil) rfl (.cons rfl (RnL.fn .nil) (.cons rfl (.slq rfl rfl) (.cons rfl (.dat (ek_TItem.rlst)) (.cons rfl (.dat .int) (.cons rfl (.dat .int) .nil)))))) (fun s1 B o hS1 hB1 hE1 => ?_)
  unfold S_impl_numbers_StateOf_1_1 at hS1
  refine RW.sreg ?_
  refine rl.gen rfl rfl fun b hb => ?_
  cases b
  ·have h3 := iteBF hS1 hb
   refine rl.done (RW.seq (RW.cond_f rfl (RW.exit (blkA_eq ?_))))
   cases h3
   exact ⟨_, (hE1 _ rfl).symm, (Gh.ren0 [0] (.same rfl (ekI.fref _ _) .nil) rfl (.cons rfl (.slq rfl rfl) .nil))⟩
  ·have h4 := iteBT hS1 hb
   refine rl.done (RW.seq (RW.cond_t rfl (RW.skip (RW.seq (RW.blk (RW.sreg ?_))))))
   obtain ⟨v3, e3, h5⟩ := bindS h4
   refine rl.op (x_ia_lst (enc := enc_TItem) (o := false) rfl rfl rfl e3) ?_
   refine rl.op (x_ld_ela (off' := 0) (vs := (enc_TItem false v3)) ek_TItem rfl e3 rfl rfl rfl) ?_
   refine rl.run 2 rfl (rl.done (RW.sreg (rl.run 3 rfl ?_)))
   obtain ⟨v4, e4, h6⟩ := bindS h5
   refine rl.call rfl rfl rfl (CallW.val (r' := .tup [.int .i64 v4.1, .bool v4.2]) ok_impl_StateOf_1 (law_impl_StateOf_1 e4) (.cons (DFL.agg (.cons .int (.cons .int (.cons .int (.cons .int (.cons .int (.cons .str (.cons .str (.cons .str .nil))))))))) .nil) (FlL.tup (.cons .refl (.cons .refl .nil))) ?_)
   refine rl.run 5 rfl (rl.done ?_)
   refine RW.keep [1, 5, 8, 9, 11, 12, 13] (a' := [(1, .fn 103 []), (5, .sl 0 0 s1.2.length), (8, .int .i64 v4.1), (9, .bool v4.2), (11, .lst false 9 (fl (enc_TItem false) x0) x0.length), (12, .int .i64 (x0.length : Int)), (13, .int .i64 s1.1)]) (H' := [some ⟨fl (encI true) s1.2, 1⟩, some ⟨[.int .i64 v3.Seq, .int .i64 v3.Rec.Kind, .int .i64 v3.Rec.Valid, .int .i64 v3.Rec.Uid, .int .i64 v3.Rec.Next, .int .i64 v3.Rec.Flags, .str v3.Rec.User, .str v3.Rec.Name, .str v3.Rec.Text], 0⟩]) rfl rfl ?_
   refine RW.sreg (rl.run 1 rfl (rl.done ?_))
   cases hb : v4.2
   ·have h7 := iteBF h6 hb
    refine RW.cond_f rfl (RW.skip (RW.reg (rl.run 2 rfl (rl.done ?_))))
    cases h7
    exact hB1 _ rfl _ _ (Gh.ren0 [0] (.same rfl (ekI.fref _ _) .nil) rfl (.cons rfl (RnL.fn .nil) (.cons rfl (.slq rfl rfl) (.cons rfl (.dat (ek_TItem.rlst)) (.cons rfl (.dat .int) (.cons rfl (.dat .int) .nil))))))
   ·have h8 := iteBT h6 hb
    refine RW.cond_t rfl (RW.reg (rl.run 3 rfl ?_))
    obtain ⟨v5, e5, h9⟩ := bindS h8
    refine rl.op (x_app rfl rfl (rapp_sl (l := s1.2) (m := [v4.1]) (o := true) ekI rfl rfl (acont_slq (m := [v4.1]) (o := true) fkI rfl rfl) rfl (fkI.fst _ _) e5)) ?_
    refine rl.run 1 rfl (rl.done (RW.reg (rl.run 2 rfl (rl.done ?_))))
    cases h9
    exact hB1 _ rfl _ _ (Gh.ren0 [3] (.same rfl (ekI.fref _ _) .nil) rfl (.cons rfl (RnL.fn .nil) (.cons rfl (.slq rfl rfl) (.cons rfl (.dat (ek_TItem.rlst)) (.cons rfl (.dat .int) (.cons rfl (.dat .int) .nil))))))
 ·intro y2 hC
  subst hC
  refine RW.sreg (rl.run 1 rfl ?_)
  obtain ⟨v7, e7, h10⟩ := bindS h2
  refine rl.call rfl rfl rfl (CallW.sortI (H' := [some ⟨fl (encI true) v7, 1⟩]) lay_slices_Sort_int e7 rfl rfl rfl rfl ?_)
  refine rl.done (RW.sreg (rl.run 1 rfl ?_))
  obtain ⟨v8, e8, h11⟩ := bindS h10
  refine rl.call rfl rfl rfl (CallW.compI (H' := [some ⟨fl (encI true) v8, 1⟩]) lay_slices_Compact_int e8 rfl ((sort?_length e7)).symm rfl rfl ?_)
  refine rl.run 1 rfl (rl.done (RW.ret ?_))
  cases h11
  exact RRet.mk rfl (OutR.ownq ekI rfl rfl) (by first | decide | simp)
theorem law_impl_about {x0 : TRec} {x1 : Int} {x2 : Int} {r : Bool} (hF : F_impl_about x0 x1 x2 = some r) : PCalls Tryz.prog 164 [.agg (enc_TRec false x0), .int .i64 x1, .int .i64 x2] (.bool r) := by
 refine PCalls.of_r k_impl_about rfl ?_
 unfold F_impl_about at hF
 refine RW.sreg (rl.run 2 rfl (rl.done (RW.sreg (rl.run 3 rfl ?_))))
 refine rl.gen rfl rfl fun b hb => ?_
 cases b
 ·have h1 := iteBF hF hb
  refine rl.run 7 rfl (rl.done ?_)
  refine RW.keep [6] (a' := [(6, .bool false)]) (H' := [some ⟨[.int .i64 x0.Kind, .int .i64 x0.Valid, .int .i64 x0.Uid, .int .i64 x0.Next, .int .i64 x0.Flags, .str x0.User, .str x0.Name, .str x0.Text], 0⟩]) rfl rfl ?_
  refine RW.ret ?_
  cases h1
  exact RRet.mk rfl .bool (by first | decide | simp)
 ·have h2 := iteBT hF hb
  refine rl.run 7 rfl (rl.done ?_)
  refine RW.keep [6] (a' := [(6, .bool (x0.Valid == x2))]) (H' := [some ⟨[.int .i64 x0.Kind, .int .i64 x0.Valid, .int .i64 x0.Uid, .int .i64 x0.Next, .int .i64 x0.Flags, .str x0.User, .str x0.Name, .str x0.Text], 0⟩]) rfl rfl ?_
  refine RW.ret ?_
  cases h2
  exact RRet.mk rfl .bool (by first | decide | simp)
theorem law_impl_boxThere_1_w {x0 : TRec} {x1 : Int} {r : Bool} (hF : F_impl_boxThere_1_w x0 x1 = some r) : ACalls Tryz.prog 1 163 [.agg (enc_TRec false x0), .ptr 0 0] [some ⟨[.int .i64 x1], 0⟩] (.bool r) [some ⟨[.int .i64 x1], 0⟩] := by
 refine ACalls.of_s k_impl_boxThere_1 rfl ?_
 unfold F_impl_boxThere_1_w at hF
 refine RW.sreg (rl.run 2 rfl (rl.done (RW.sreg (rl.run 2 rfl ?_))))
 obtain ⟨v1, e1, h1⟩ := bindS hF
 refine rl.call rfl rfl rfl (CallW.val (r' := .bool v1) ok_impl_about (law_impl_about e1) (.cons (DFL.agg (.cons .int (.cons .int (.cons .int (.cons .int (.cons .int (.cons .str (.cons .str (.cons .str .nil))))))))) (.cons .int (.cons .int .nil))) .refl ?_)
 refine rl.run 1 rfl (rl.done (RW.ret ?_))
 cases h1
 exact RRetS.mk rfl .bool (Gh.renN [0] (.cells rfl rfl (.keep .int .nil) .nil) rfl rfl rfl .nil)
theorem law_impl_bySeq {x0 : TItem} {x1 : TItem} {r : Bool} (hF : F_impl_bySeq x0 x1 = some r) : PCalls Tryz.prog 165 [.agg (enc_TItem false x0), .agg (enc_TItem false x1)] (.bool r) := by
 refine PCalls.of_r k_impl_bySeq rfl ?_
 unfold F_impl_bySeq at hF
 refine RW.sreg (rl.run 3 rfl (rl.done (RW.sreg (rl.run 6 rfl (rl.done (RW.ret ?_))))))
 cases hF
 exact RRet.mk rfl .bool (by first | decide | simp)
theorem law_impl_latest_boxThere_1_bySeq {x0 : List TItem} {x1 : Int} {r : TItem × Bool} (hF : F_impl_latest_boxThere_1_bySeq x0 x1 = some r) : ACalls Tryz.prog 1 162 [.lst false 9 (fl (enc_TItem false) x0) x0.length, .fn 163 [.ptr 0 0], .fn 165 []] [some ⟨[.int .i64 x1], 0⟩] (.tup [.agg (enc_TItem true r.1), .bool r.2]) [some ⟨[.int .i64 x1], 0⟩] := by
 refine ACalls.of_s k_impl_latest rfl ?_
 unfold F_impl_latest_boxThere_1_bySeq at hF
 refine RW.sreg (rl.run 2 rfl (rl.done (RW.sreg (rl.run 4 rfl (rl.done (RW.seq (RW.sreg (rl.run 3 rfl (rl.done ?_)))))))))
 obtain ⟨y7, ey7, h2⟩ := bindS hF
 refine RW.cutq (σ := Bool × Int × Int × Int × Int × Int × Int × (List UInt8) × (List UInt8) × (List UInt8)) (fun y2 => [(6, .ptr 1 0), (8, .ptr 2 0), (9, .bool y2.1)]) (fun y2 => [some ⟨[.int .i64 x1], 0⟩, some ⟨[.int .i64 0, .int .i64 0, .int .i64 0, .int .i64 0, .int .i64 0, .int .i64 0, .str [], .str [], .str []], 0⟩, some ⟨[.int .i64 y2.2.1, .int .i64 y2.2.2.1, .int .i64 y2.2.2.2.1, .int .i64 y2.2.2.2.2.1, .int .i64 y2.2.2.2.2.2.1, .int .i64 y2.2.2.2.2.2.2.1, .str y2.2.2.2.2.2.2.2.1, .str y2.2.2.2.2.2.2.2.2.1, .str y2.2.2.2.2.2.2.2.2.2], 0⟩]) (fun y => y7 = y) (fun _ _ _ _ g h => RW.gh g h) ?_ ?_
 ·refine RW.blk ?_
  refine RW.iter (σ := Bool × Int × Int × Int × Int × Int × Int × Int × (List UInt8) × (List UInt8) × (List UInt8)) ey7 (fun s1 => [(1, .fn 163 [.ptr 0 0]), (2, .fn 165 []), (6, .ptr 1 0), (8, .ptr 2 0), (9, .bool s1.1), (13, .lst false 9 (fl (enc_TItem false) x0) x0.length), (14, .int .i64 (x0.length : Int)), (15, .int .i64 s1.2.1)]) (fun s1 => [some ⟨[.int .i64 x1], 0⟩, some ⟨[.int .i64 0, .int .i64 0, .int .i64 0, .int .i64 0, .int .i64 0, .int .i64 0, .str [], .str [], .str []], 0⟩, some ⟨[.int .i64 s1.2.2.1, .int .i64 s1.2.2.2.1, .int .i64 s1.2.2.2.2.1, .int .i64 s1.2.2.2.2.2.1, .int .i64 s1.2.2.2.2.2.2.1, .int .i64 s1.2.2.2.2.2.2.2.1, .str s1.2.2.2.2.2.2.2.2.1, .str s1.2.2.2.2.2.2.2.2.2.1, .str s1.2.2.2.2.2.2.2.2.2.2], 0⟩]) (Gh.renN [0, 1, 2] (.cells rfl rfl (.keep .int .nil) (.cells rfl rfl (.keep .int (.keep .int (.keep .int (.keep .int (.keep .int (.keep .int (.keep .str (.keep .str (.keep .str .nil))))))))) (.cells rfl rfl (.keep .int (.keep .int (.keep .int (.keep .int (.keep .int (.keep .int (.keep .str (.keep .str (.keep .str .nil))))))))) .nil))) rfl rfl rfl (.cons rfl (RnL.fn (.cons (.ptr rfl) .nil)) (.cons rfl (RnL.fn .nil) (.cons rfl (.ptr rfl) (.cons rfl (.ptr rfl) (.cons rfl (.dat .bool) (.cons rfl (.dat (ek_TItem.rlst)) (.cons rfl (.dat .int) (.cons rfl (.dat .int) .nil))))))))) (fun s1 B o hS1 hB1 hE1 => ?_)
  unfold S_impl_latest_boxThere_1_bySeq_1 at hS1
  refine RW.sreg ?_
  refine rl.gen rfl rfl fun b hb => ?_
  cases b
  ·have h3 := iteBF hS1 hb
   refine rl.done (RW.seq (RW.cond_f rfl (RW.exit (blkA_eq ?_))))
   cases h3
   exact ⟨_, (hE1 _ rfl).symm, (Gh.renN [0, 1, 2] (.cells rfl rfl (.keep .int .nil) (.cells rfl rfl (.keep .int (.keep .int (.keep .int (.keep .int (.keep .int (.keep .int (.keep .str (.keep .str (.keep .str .nil))))))))) (.cells rfl rfl (.keep .int (.keep .int (.keep .int (.keep .int (.keep .int (.keep .int (.keep .str (.keep .str (.keep .str .nil))))))))) .nil))) rfl rfl rfl (.cons rfl (.ptr rfl) (.cons rfl (.ptr rfl) (.cons rfl (.dat .bool) .nil))))⟩
  ·have h4 := iteBT hS1 hb
   refine rl.done (RW.seq (RW.cond_t rfl (RW.skip (RW.seq (RW.blk (RW.sreg ?_))))))
   obtain ⟨v3, e3, h5⟩ := bindS h4
   refine rl.op (x_ia_lst (enc := enc_TItem) (o := false) rfl rfl rfl e3) ?_
   refine rl.op (x_ld_ela (off' := 0) (vs := (enc_TItem false v3)) ek_TItem rfl e3 rfl rfl rfl) ?_
   refine rl.run 2 rfl (rl.done (RW.seq ?_))
   obtain ⟨y4, ey4, h6⟩ := bindS h5
   refine RW.cutq (σ := Bool) (fun y4 => [(1, .fn 163 [.ptr 0 0]), (2, .fn 165 []), (6, .ptr 1 0), (8, .ptr 2 0), (9, .bool s1.1), (11, .ptr 3 0), (13, .lst false 9 (fl (enc_TItem false) x0) x0.length), (14, .int .i64 (x0.length : Int)), (15, .int .i64 s1.2.1), (32, .bool y4)]) (fun y4 => [some ⟨[.int .i64 x1], 0⟩, some ⟨[.int .i64 0, .int .i64 0, .int .i64 0, .int .i64 0, .int .i64 0, .int .i64 0, .str [], .str [], .str []], 0⟩, some ⟨[.int .i64 s1.2.2.1, .int .i64 s1.2.2.2.1, .int .i64 s1.2.2.2.2.1, .int .i64 s1.2.2.2.2.2.1, .int .i64 s1.2.2.2.2.2.2.1, .int .i64 s1.2.2.2.2.2.2.2.1, .str s1.2.2.2.2.2.2.2.2.1, .str s1.2.2.2.2.2.2.2.2.2.1, .str s1.2.2.2.2.2.2.2.2.2.2], 0⟩, some ⟨[.int .i64 v3.Seq, .int .i64 v3.Rec.Kind, .int .i64 v3.Rec.Valid, .int .i64 v3.Rec.Uid, .int .i64 v3.Rec.Next, .int .i64 v3.Rec.Flags, .str v3.Rec.User, .str v3.Rec.Name, .str v3.Rec.Text], 0⟩]) (fun y => y4 = y) (fun _ _ _ _ g h => RW.gh g h) ?_ ?_
   ·refine RW.reg ?_
    refine rl.run 3 rfl ?_
    obtain ⟨v5, e5, h7⟩ := bindS ey4
    refine rl.call rfl rfl rfl (CallW.embR [0] ok_impl_boxThere_1 (law_impl_boxThere_1_w e5) (.cells rfl rfl (.keep .int .nil) .nil) rfl rfl (.cons (RnL.agg (.cons (.dat .int) (.cons (.dat .int) (.cons (.dat .int) (.cons (.dat .int) (.cons (.dat .int) (.cons (.dat .str) (.cons (.dat .str) (.cons (.dat .str) .nil))))))))) (.cons (.ptr rfl) .nil)) .bool ?_)
    cases hb : v5
    ·have h8 := iteBF h7 hb
     refine rl.run 10 rfl (rl.done ?_)
     cases h8
     exact ⟨_, rfl, (Gh.renN [0, 1, 2, 3] (.cells rfl rfl (.keep .int .nil) (.cells rfl rfl (.keep .int (.keep .int (.keep .int (.keep .int (.keep .int (.keep .int (.keep .str (.keep .str (.keep .str .nil))))))))) (.cells rfl rfl (.keep .int (.keep .int (.keep .int (.keep .int (.keep .int (.keep .int (.keep .str (.keep .str (.keep .str .nil))))))))) (.cells rfl rfl (.keep .int (.keep .int (.keep .int (.keep .int (.keep .int (.keep .int (.keep .str (.keep .str (.keep .str .nil))))))))) .nil)))) rfl rfl rfl (.cons rfl (RnL.fn (.cons (.ptr rfl) .nil)) (.cons rfl (RnL.fn .nil) (.cons rfl (.ptr rfl) (.cons rfl (.ptr rfl) (.cons rfl (.dat .bool) (.cons rfl (.ptr rfl) (.cons rfl (.dat (ek_TItem.rlst)) (.cons rfl (.dat .int) (.cons rfl (.dat .int) (.cons rfl (.dat .bool) .nil)))))))))))⟩
    ·have h9 := iteBT h7 hb
     refine rl.run 4 rfl ?_
     cases hb : (!s1.1)
     ·have h10 := iteBF h9 hb
      refine rl.run 3 rfl ?_
      obtain ⟨v6, e6, h11⟩ := bindS h10
      refine rl.call rfl rfl rfl (CallW.val (r' := .bool v6) ok_impl_bySeq (law_impl_bySeq e6) (.cons (DFL.agg (.cons .int (.cons .int (.cons .int (.cons .int (.cons .int (.cons .int (.cons .str (.cons .str (.cons .str .nil)))))))))) (.cons (DFL.agg (.cons .int (.cons .int (.cons .int (.cons .int (.cons .int (.cons .int (.cons .str (.cons .str (.cons .str .nil)))))))))) .nil)) .refl ?_)
      cases hb : v6
      ·have h12 := iteBF h11 hb
       refine rl.run 2 rfl (rl.done ?_)
       cases h12
       exact ⟨_, rfl, (Gh.renN [0, 1, 2, 3] (.cells rfl rfl (.keep .int .nil) (.cells rfl rfl (.keep .int (.keep .int (.keep .int (.keep .int (.keep .int (.keep .int (.keep .str (.keep .str (.keep .str .nil))))))))) (.cells rfl rfl (.keep .int (.keep .int (.keep .int (.keep .int (.keep .int (.keep .int (.keep .str (.keep .str (.keep .str .nil))))))))) (.cells rfl rfl (.keep .int (.keep .int (.keep .int (.keep .int (.keep .int (.keep .int (.keep .str (.keep .str (.keep .str .nil))))))))) .nil)))) rfl rfl rfl (.cons rfl (RnL.fn (.cons (.ptr rfl) .nil)) (.cons rfl (RnL.fn .nil) (.cons rfl (.ptr rfl) (.cons rfl (.ptr rfl) (.cons rfl (.dat .bool) (.cons rfl (.ptr rfl) (.cons rfl (.dat (ek_TItem.rlst)) (.cons rfl (.dat .int) (.cons rfl (.dat .int) (.cons rfl (.dat .bool) .nil)))))))))))⟩
      ·have h13 := iteBT h11 hb
       refine rl.run 2 rfl (rl.done ?_)
       cases h13
       exact ⟨_, rfl, (Gh.renN [0, 1, 2, 3] (.cells rfl rfl (.keep .int .nil) (.cells rfl rfl (.keep .int (.keep .int (.keep .int (.keep .int (.keep .int (.keep .int (.keep .str (.keep .str (.keep .str .nil))))))))) (.cells rfl rfl (.keep .int (.keep .int (.keep .int (.keep .int (.keep .int (.keep .int (.keep .str (.keep .str (.keep .str .nil))))))))) (.cells rfl rfl (.keep .int (.keep .int (.keep .int (.keep .int (.keep .int (.keep .int (.keep .str (.keep .str (.keep .str .nil))))))))) .nil)))) rfl rfl rfl (.cons rfl (RnL.fn (.cons (.ptr rfl) .nil)) (.cons rfl (RnL.fn .nil) (.cons rfl (.ptr rfl) (.cons rfl (.ptr rfl) (.cons rfl (.dat .bool) (.cons rfl (.ptr rfl) (.cons rfl (.dat (ek_TItem.rlst)) (.cons rfl (.dat .int) (.cons rfl (.dat .int) (.cons rfl (.dat .bool) .nil)))))))))))⟩
     ·have h14 := iteBT h9 hb
      refine rl.run 6 rfl (rl.done ?_)
      cases h14
      exact ⟨_, rfl, (Gh.renN [0, 1, 2, 3] (.cells rfl rfl (.keep .int .nil) (.cells rfl rfl (.keep .int (.keep .int (.keep .int (.keep .int (.keep .int (.keep .int (.keep .str (.keep .str (.keep .str .nil))))))))) (.cells rfl rfl (.keep .int (.keep .int (.keep .int (.keep .int (.keep .int (.keep .int (.keep .str (.keep .str (.keep .str .nil))))))))) (.cells rfl rfl (.keep .int (.keep .int (.keep .int (.keep .int (.keep .int (.keep .int (.keep .str (.keep .str (.keep .str .nil))))))))) .nil)))) rfl rfl rfl (.cons rfl (RnL.fn (.cons (.ptr rfl) .nil)) (.cons rfl (RnL.fn .nil) (.cons rfl (.ptr rfl) (.cons rfl (.ptr rfl) (.cons rfl (.dat .bool) (.cons rfl (.ptr rfl) (.cons rfl (.dat (ek_TItem.rlst)) (.cons rfl (.dat .int) (.cons rfl (.dat .int) (.cons rfl (.dat .bool) .nil)))))))))))⟩
   ·intro y hC
    subst hC
    cases hb : y4
    ·have h15 := iteBF h6 hb
     refine RW.cond_f rfl (RW.skip (RW.reg (rl.run 2 rfl (rl.done ?_))))
     cases h15
     exact hB1 _ rfl _ _ (Gh.renN [0, 1, 2] (.cells rfl rfl (.keep .int .nil) (.cells rfl rfl (.keep .int (.keep .int (.keep .int (.keep .int (.keep .int (.keep .int (.keep .str (.keep .str (.keep .str .nil))))))))) (.cells rfl rfl (.keep .int (.keep .int (.keep .int (.keep .int (.keep .int (.keep .int (.keep .str (.keep .str (.keep .str .nil))))))))) .nil))) rfl rfl rfl (.cons rfl (RnL.fn (.cons (.ptr rfl) .nil)) (.cons rfl (RnL.fn .nil) (.cons rfl (.ptr rfl) (.cons rfl (.ptr rfl) (.cons rfl (.dat .bool) (.cons rfl (.dat (ek_TItem.rlst)) (.cons rfl (.dat .int) (.cons rfl (.dat .int) .nil)))))))))
    ·have h16 := iteBT h6 hb
     refine RW.cond_t rfl (RW.reg (rl.run 3 rfl (rl.done (RW.reg (rl.run 2 rfl (rl.done ?_))))))
     cases h16
     exact hB1 _ rfl _ _ (Gh.renN [0, 1, 2] (.cells rfl rfl (.keep .int .nil) (.cells rfl rfl (.keep .int (.keep .int (.keep .int (.keep .int (.keep .int (.keep .int (.keep .str (.keep .str (.keep .str .nil))))))))) (.cells rfl rfl (.keep .int (.keep .int (.keep .int (.keep .int (.keep .int (.keep .int (.keep .str (.keep .str (.keep .str .nil))))))))) .nil))) rfl rfl rfl (.cons rfl (RnL.fn (.cons (.ptr rfl) .nil)) (.cons rfl (RnL.fn .nil) (.cons rfl (.ptr rfl) (.cons rfl (.ptr rfl) (.cons rfl (.dat .bool) (.cons rfl (.dat (ek_TItem.rlst)) (.cons rfl (.dat .int) (.cons rfl (.dat .int) .nil)))))))))
 ·intro y2 hC
  subst hC
  refine RW.sreg (rl.run 4 rfl (rl.done (RW.ret ?_)))
  cases h2
  exact RRetS.mk rfl (.tup (fac (.agg (sc_TItem _ _)) (fac .bool fan))) (Gh.renN [0] (.cells rfl rfl (.keep .int .nil) .nil) rfl rfl rfl .nil)
theorem law_impl_boxThere_2_w {x0 : TRec} {x1 : Int} {r : Bool} (hF : F_impl_boxThere_2_w x0 x1 = some r) : ACalls Tryz.prog 1 166 [.agg (enc_TRec false x0), .ptr 0 0] [some ⟨[.int .i64 x1], 0⟩] (.bool r) [some ⟨[.int .i64 x1], 0⟩] := by
 refine ACalls.of_s k_impl_boxThere_2 rfl ?_
 unfold F_impl_boxThere_2_w at hF
 refine RW.sreg (rl.run 2 rfl (rl.done (RW.sreg (rl.run 2 rfl ?_))))
 obtain ⟨v1, e1, h1⟩ := bindS hF
 refine rl.call rfl rfl rfl (CallW.val (r' := .bool v1) ok_impl_about (law_impl_about e1) (.cons (DFL.agg (.cons .int (.cons .int (.cons .int (.cons .int (.cons .int (.cons .str (.cons .str (.cons .str .nil))))))))) (.cons .int (.cons .int .nil))) .refl ?_)
 refine rl.run 1 rfl (rl.done (RW.ret ?_))
 cases h1
 exact RRetS.mk rfl .bool (Gh.renN [0] (.cells rfl rfl (.keep .int .nil) .nil) rfl rfl rfl .nil)
theorem law_impl_byNext {x0 : TItem} {x1 : TItem} {r : Bool} (hF : F_impl_byNext x0 x1 = some r) : PCalls Tryz.prog 167 [.agg (enc_TItem false x0), .agg (enc_TItem false x1)] (.bool r) := by
 refine PCalls.of_r k_impl_byNext rfl ?_
 unfold F_impl_byNext at hF
 refine RW.sreg (rl.run 3 rfl (rl.done (RW.seq (RW.sreg (rl.run 6 rfl ?_)))))
 refine rl.gen rfl rfl fun b hb => ?_
 cases b
 ·have h1 := iteBF hF hb
  refine rl.done (RW.cond_f rfl (RW.skip (RW.sreg (rl.run 6 rfl (rl.done ?_)))))
  refine RW.keep [4] (a' := [(4, .bool (decide (x0.Seq < x1.Seq)))]) (H' := [some ⟨[.int .i64 x0.Seq, .int .i64 x0.Rec.Kind, .int .i64 x0.Rec.Valid, .int .i64 x0.Rec.Uid, .int .i64 x0.Rec.Next, .int .i64 x0.Rec.Flags, .str x0.Rec.User, .str x0.Rec.Name, .str x0.Rec.Text], 0⟩, some ⟨[.int .i64 x1.Seq, .int .i64 x1.Rec.Kind, .int .i64 x1.Rec.Valid, .int .i64 x1.Rec.Uid, .int .i64 x1.Rec.Next, .int .i64 x1.Rec.Flags, .str x1.Rec.User, .str x1.Rec.Name, .str x1.Rec.Text], 0⟩]) rfl rfl ?_
  refine RW.ret ?_
  cases h1
  exact RRet.mk rfl .bool (by first | decide | simp)
 ·have h2 := iteBT hF hb
  refine rl.done (RW.cond_t rfl (RW.sreg (rl.run 8 rfl (rl.done ?_))))
  refine RW.keep [4] (a' := [(4, .bool (decide (x0.Rec.Next < x1.Rec.Next)))]) (H' := [some ⟨[.int .i64 x0.Seq, .int .i64 x0.Rec.Kind, .int .i64 x0.Rec.Valid, .int .i64 x0.Rec.Uid, .int .i64 x0.Rec.Next, .int .i64 x0.Rec.Flags, .str x0.Rec.User, .str x0.Rec.Name, .str x0.Rec.Text], 0⟩, some ⟨[.int .i64 x1.Seq, .int .i64 x1.Rec.Kind, .int .i64 x1.Rec.Valid, .int .i64 x1.Rec.Uid, .int .i64 x1.Rec.Next, .int .i64 x1.Rec.Flags, .str x1.Rec.User, .str x1.Rec.Name, .str x1.Rec.Text], 0⟩]) rfl rfl ?_
  refine RW.ret ?_
  cases h2
  exact RRet.mk rfl .bool (by first | decide | simp)
theorem law_impl_latest_boxThere_2_byNext {x0 : List TItem} {x1 : Int} {r : TItem × Bool} (hF : F_impl_latest_boxThere_2_byNext x0 x1 = some r) : ACalls Tryz.prog 1 162 [.lst false 9 (fl (enc_TItem false) x0) x0.length, .fn 166 [.ptr 0 0], .fn 167 []] [some ⟨[.int .i64 x1], 0⟩] (.tup [.agg (enc_TItem true r.1), .bool r.2]) [some ⟨[.int .i64 x1], 0⟩] := by
 refine ACalls.of_s k_impl_latest rfl ?_
 unfold F_impl_latest_boxThere_2_byNext at hF
 refine RW.sreg (rl.run 2 rfl (rl.done (RW.sreg (rl.run 4 rfl (rl.done (RW.seq (RW.sreg (rl.run 3 rfl (rl.done ?_)))))))))
 obtain ⟨y7, ey7, h2⟩ := bindS hF
 refine RW.cutq (σ := Bool × Int × Int × Int × Int × Int × Int × (List UInt8) × (List UInt8) × (List UInt8)) (fun y2 => [(6, .ptr 1 0), (8, .ptr 2 0), (9, .bool y2.1)]) (fun y2 => [some ⟨[.int .i64 x1], 0⟩, some ⟨[.int .i64 0, .int .i64 0, .int .i64 0, .int .i64 0, .int .i64 0, .int .i64 0, .str [], .str [], .str []], 0⟩, some ⟨[.int .i64 y2.2.1, .int .i64 y2.2.2.1, .int .i64 y2.2.2.2.1, .int .i64 y2.2.2.2.2.1, .int .i64 y2.2.2.2.2.2.1, .int .i64 y2.2.2.2.2.2.2.1, .str y2.2.2.2.2.2.2.2.1, .str y2.2.2.2.2.2.2.2.2.1, .str y2.2.2.2.2.2.2.2.2.2], 0⟩]) (fun y => y7 = y) (fun _ _ _ _ g h => RW.gh g h) ?_ ?_
 ·refine RW.blk ?_
  refine RW.iter (σ := Bool × Int × Int × Int × Int × Int × Int × Int × (List UInt8) × (List UInt8) × (List UInt8)) ey7 (fun s1 => [(1, .fn 166 [.ptr 0 0]), (2, .fn 167 []), (6, .ptr 1 0), (8, .ptr 2 0), (9, .bool s1.1), (13, .lst false 9 (fl (enc_TItem false) x0) x0.length), (14, .int .i64 (x0.length : Int)), (15, .int .i64 s1.2.1)]) (fun s1 => [some ⟨[.int .i64 x1], 0⟩, some ⟨[.int .i64 0, .int .i64 0, .int .i64 0, .int .i64 0, .int .i64 0, .int .i64 0, .str [], .str [], .str []], 0⟩, some ⟨[.int .i64 s1.2.2.1, .int .i64 s1.2.2.2.1, .int .i64 s1.2.2.2.2.1, .int .i64 s1.2.2.2.2.2.1, .int .i64 s1.2.2.2.2.2.2.1, .int .i64 s1.2.2.2.2.2.2.2.1, .str s1.2.2.2.2.2.2.2.2.1, .str s1.2.2.2.2.2.2.2.2.2.1, .str s1.2.2.2.2.2.2.2.2.2.2], 0⟩]) (Gh.renN [0, 1, 2] (.cells rfl rfl (.keep .int .nil) (.cells rfl rfl (.keep .int (.keep .int (.keep .int (.keep .int (.keep .int (.keep .int (.keep .str (.keep .str (.keep .str .nil))))))))) (.cells rfl rfl (.keep .int (.keep .int (.keep .int (.keep .int (.keep .int (.keep .int (.keep .str (.keep .str (.keep .str .nil))))))))) .nil))) rfl rfl rfl (.cons rfl (RnL.fn (.cons (.ptr rfl) .nil)) (.cons rfl (RnL.fn .nil) (.cons rfl (.ptr rfl) (.cons rfl (.ptr rfl) (.cons rfl (.dat .bool) (.cons rfl (.dat (ek_TItem.rlst)) (.cons rfl (.dat .int) (.cons rfl (.dat .int) .nil))))))))) (fun s1 B o hS1 hB1 hE1 => ?_)
  unfold S_impl_latest_boxThere_2_byNext_1 at hS1
  refine RW.sreg ?_
  refine rl.gen rfl rfl fun b hb => ?_
  cases b
  ·have h3 := iteBF hS1 hb
   refine rl.done (RW.seq (RW.cond_f rfl (RW.exit (blkA_eq ?_))))
   cases h3
   exact ⟨_, (hE1 _ rfl).symm, (Gh.renN [0, 1, 2] (.cells rfl rfl (.keep .int .nil) (.cells rfl rfl (.keep .int (.keep .int (.keep .int (.keep .int (.keep .int (.keep .int (.keep .str (.keep .str (.keep .str .nil))))))))) (.cells rfl rfl (.keep .int (.keep .int (.keep .int (.keep .int (.keep .int (.keep .int (.keep .str (.keep .str (.keep .str .nil))))))))) .nil))) rfl rfl rfl (.cons rfl (.ptr rfl) (.cons rfl (.ptr rfl) (.cons rfl (.dat .bool) .nil))))⟩
  ·have h4 := iteBT hS1 hb
   refine rl.done (RW.seq (RW.cond_t rfl (RW.skip (RW.seq (RW.blk (RW.sreg ?_))))))
   obtain ⟨v3, e3, h5⟩ := bindS h4
   refine rl.op (x_ia_lst (enc := enc_TItem) (o := false) rfl rfl rfl e3) ?_
   refine rl.op (x_ld_ela (off' := 0) (vs := (enc_TItem false v3)) ek_TItem rfl e3 rfl rfl rfl) ?_
   refine rl.run 2 rfl (rl.done (RW.seq ?_))
   obtain ⟨y4, ey4, h6⟩ := bindS h5
   refine RW.cutq (σ := Bool) (fun y4 => [(1, .fn 166 [.ptr 0 0]), (2, .fn 167 []), (6, .ptr 1 0), (8, .ptr 2 0), (9, .bool s1.1), (11, .ptr 3 0), (13, .lst false 9 (fl (enc_TItem false) x0) x0.length), (14, .int .i64 (x0.length : Int)), (15, .int .i64 s1.2.1), (32, .bool y4)]) (fun y4 => [some ⟨[.int .i64 x1], 0⟩, some ⟨[.int .i64 0, .int .i64 0, .int .i64 0, .int .i64 0, .int .i64 0, .int .i64 0, .str [], .str [], .str []], 0⟩, some ⟨[.int .i64 s1.2.2.1, .int .i64 s1.2.2.2.1, .int .i64 s1.2.2.2.2.1, .int .i64 s1.2.2.2.2.2.1, .int .i64 s1.2.2.2.2.2.2.1, .int .i64 s1.2.2.2.2.2.2.2.1, .str s1.2.2.2.2.2.2.2.2.1, .str s1.2.2.2.2.2.2.2.2.2.1, .str s1.2.2.2.2.2.2.2.2.2.2], 0⟩, some ⟨[.int .i64 v3.Seq, .int .i64 v3.Rec.Kind, .int .i64 v3.Rec.Valid, .int .i64 v3.Rec.Uid, .int .i64 v3.Rec.Next, .int .i64 v3.Rec.Flags, .str v3.Rec.User, .str v3.Rec.Name, .str v3.Rec.Text], 0⟩]) (fun y => y4 = y) (fun _ _ _ _ g h => RW.gh g h) ?_ ?_
   ·refine RW.reg ?_
    refine rl.run 3 rfl ?_
    obtain ⟨v5, e5, h7⟩ := bindS ey4
    refine rl.call rfl rfl rfl (CallW.embR [0] ok_impl_boxThere_2 (law_impl_boxThere_2_w e5) (.cells rfl rfl (.keep .int .nil) .nil) rfl rfl (.cons (RnL.agg (.cons (.dat .int) (.cons (.dat .int) (.cons (.dat .int) (.cons (.dat .int) (.cons (.dat .int) (.cons (.dat .str) (.cons (.dat .str) (.cons (.dat .str) .nil))))))))) (.cons (.ptr rfl) .nil)) .bool ?_)
    cases hb : v5
    ·have h8 := iteBF h7 hb
     refine rl.run 10 rfl (rl.done ?_)
     cases h8
     exact ⟨_, rfl, (Gh.renN [0, 1, 2, 3] (.cells rfl rfl (.keep .int .nil) (.cells rfl rfl (.keep .int (.keep .int (.keep .int (.keep .int (.keep .int (.keep .int (.keep .str (.keep .str (.keep .str .nil))))))))) (.cells rfl rfl (.keep .int (.keep .int (.keep .int (.keep .int (.keep .int (.keep .int (.keep .str (.keep .str (.keep .str .nil))))))))) (.cells rfl rfl (.keep .int (.keep .int (.keep .int (.keep .int (.keep .int (.keep .int (.keep .str (.keep .str (.keep .str .nil))))))))) .nil)))) rfl rfl rfl (.cons rfl (RnL.fn (.cons (.ptr rfl) .nil)) (.cons rfl (RnL.fn .nil) (.cons rfl (.ptr rfl) (.cons rfl (.ptr rfl) (.cons rfl (.dat .bool) (.cons rfl (.ptr rfl) (.cons rfl (.dat (ek_TItem.rlst)) (.cons rfl (.dat .int) (.cons rfl (.dat .int) (.cons rfl (.dat .bool) .nil)))))))))))⟩
    ·have h9 := iteBT h7 hb
     refine rl.run 4 rfl ?_
     cases hb : (!s1.1)
     ·have h10 := iteBF h9 hb
      refine rl.run 3 rfl ?_
      obtain ⟨v6, e6, h11⟩ := bindS h10
      refine rl.call rfl rfl rfl (CallW.val (r' := .bool v6) ok_impl_byNext (law_impl_byNext e6) (.cons (DFL.agg (.cons .int (.cons .int (.cons .int (.cons .int (.cons .int (.cons .int (.cons .str (.cons .str (.cons .str .nil)))))))))) (.cons (DFL.agg (.cons .int (.cons .int (.cons .int (.cons .int (.cons .int (.cons .int (.cons .str (.cons .str (.cons .str .nil)))))))))) .nil)) .refl ?_)
      cases hb : v6
      ·have h12 := iteBF h11 hb
       refine rl.run 2 rfl (rl.done ?_)
       cases h12
       exact ⟨_, rfl, (Gh.renN [0, 1, 2, 3] (.cells rfl rfl (.keep .int .nil) (.cells rfl rfl (.keep .int (.keep .int (.keep .int (.keep .int (.keep .int (.keep .int (.keep .str (.keep .str (.keep .str .nil))))))))) (.cells rfl rfl (.keep .int (.keep .int (.keep .int (.keep .int (.keep .int (.keep .int (.keep .str (.keep .str (.keep .str .nil))))))))) (.cells rfl rfl (.keep .int (.keep .int (.keep .int (.keep .int (.keep .int (.keep .int (.keep .str (.keep .str (.keep .str .nil))))))))) .nil)))) rfl rfl rfl (.cons rfl (RnL.fn (.cons (.ptr rfl) .nil)) (.cons rfl (RnL.fn .nil) (.cons rfl (.ptr rfl) (.cons rfl (.ptr rfl) (.cons rfl (.dat .bool) (.cons rfl (.ptr rfl) (.cons rfl (.dat (ek_TItem.rlst)) (.cons rfl (.dat .int) (.cons rfl (.dat .int) (.cons rfl (.dat .bool) .nil)))))))))))⟩
      ·have h13 := iteBT h11 hb
       refine rl.run 2 rfl (rl.done ?_)
       cases h13
       exact ⟨_, rfl, (Gh.renN [0, 1, 2, 3] (.cells rfl rfl (.keep .int .nil) (.cells rfl rfl (.keep .int (.keep .int (.keep .int (.keep .int (.keep .int (.keep .int (.keep .str (.keep .str (.keep .str .nil))))))))) (.cells rfl rfl (.keep .int (.keep .int (.keep .int (.keep .int (.keep .int (.keep .int (.keep .str (.keep .str (.keep .str .nil))))))))) (.cells rfl rfl (.keep .int (.keep .int (.keep .int (.keep .int (.keep .int (.keep .int (.keep .str (.keep .str (.keep .str .nil))))))))) .nil)))) rfl rfl rfl (.cons rfl (RnL.fn (.cons (.ptr rfl) .nil)) (.cons rfl (RnL.fn .nil) (.cons rfl (.ptr rfl) (.cons rfl (.ptr rfl) (.cons rfl (.dat .bool) (.cons rfl (.ptr rfl) (.cons rfl (.dat (ek_TItem.rlst)) (.cons rfl (.dat .int) (.cons rfl (.dat .int) (.cons rfl (.dat .bool) .nil)))))))))))⟩
     ·have h14 := iteBT h9 hb
      refine rl.run 6 rfl (rl.done ?_)
      cases h14
      exact ⟨_, rfl, (Gh.renN [0, 1, 2, 3] (.cells rfl rfl (.keep .int .nil) (.cells rfl rfl (.keep .int (.keep .int (.keep .int (.keep .int (.keep .int (.keep .int (.keep .str (.keep .str (.keep .str .nil))))))))) (.cells rfl rfl (.keep .int (.keep .int (.keep .int (.keep .int (.keep .int (.keep .int (.keep .str (.keep .str (.keep .str .nil))))))))) (.cells rfl rfl (.keep .int (.keep .int (.keep .int (.keep .int (.keep .int (.keep .int (.keep .str (.keep .str (.keep .str .nil))))))))) .nil)))) rfl rfl rfl (.cons rfl (RnL.fn (.cons (.ptr rfl) .nil)) (.cons rfl (RnL.fn .nil) (.cons rfl (.ptr rfl) (.cons rfl (.ptr rfl) (.cons rfl (.dat .bool) (.cons rfl (.ptr rfl) (.cons rfl (.dat (ek_TItem.rlst)) (.cons rfl (.dat .int) (.cons rfl (.dat .int) (.cons rfl (.dat .bool) .nil)))))))))))⟩
   ·intro y hC
    subst hC
    cases hb : y4
    ·have h15 := iteBF h6 hb
     refine RW.cond_f rfl (RW.skip (RW.reg (rl.run 2 rfl (rl.done ?_))))
     cases h15
     exact hB1 _ rfl _ _ (Gh.renN [0, 1, 2] (.cells rfl rfl (.keep .int .nil) (.cells rfl rfl (.keep .int (.keep .int (.keep .int (.keep .int (.keep .int (.keep .int (.keep .str (.keep .str (.keep .str .nil))))))))) (.cells rfl rfl (.keep .int (.keep .int (.keep .int (.keep .int (.keep .int (.keep .int (.keep .str (.keep .str (.keep .str .nil))))))))) .nil))) rfl rfl rfl (.cons rfl (RnL.fn (.cons (.ptr rfl) .nil)) (.cons rfl (RnL.fn .nil) (.cons rfl (.ptr rfl) (.cons rfl (.ptr rfl) (.cons rfl (.dat .bool) (.cons rfl (.dat (ek_TItem.rlst)) (.cons rfl (.dat .int) (.cons rfl (.dat .int) .nil)))))))))
    ·have h16 := iteBT h6 hb
     refine RW.cond_t rfl (RW.reg (rl.run 3 rfl (rl.done (RW.reg (rl.run 2 rfl (rl.done ?_))))))
     cases h16
     exact hB1 _ rfl _ _ (Gh.renN [0, 1, 2] (.cells rfl rfl (.keep .int .nil) (.cells rfl rfl (.keep .int (.keep .int (.keep .int (.keep .int (.keep .int (.keep .int (.keep .str (.keep .str (.keep .str .nil))))))))) (.cells rfl rfl (.keep .int (.keep .int (.keep .int (.keep .int (.keep .int (.keep .int (.keep .str (.keep .str (.keep .str .nil))))))))) .nil))) rfl rfl rfl (.cons rfl (RnL.fn (.cons (.ptr rfl) .nil)) (.cons rfl (RnL.fn .nil) (.cons rfl (.ptr rfl) (.cons rfl (.ptr rfl) (.cons rfl (.dat .bool) (.cons rfl (.dat (ek_TItem.rlst)) (.cons rfl (.dat .int) (.cons rfl (.dat .int) .nil)))))))))
 ·intro y2 hC
  subst hC
  refine RW.sreg (rl.run 4 rfl (rl.done (RW.ret ?_)))
  cases h2
  exact RRetS.mk rfl (.tup (fac (.agg (sc_TItem _ _)) (fac .bool fan))) (Gh.renN [0] (.cells rfl rfl (.keep .int .nil) .nil) rfl rfl rfl .nil)
theorem law_impl_boxThere {x0 : List TItem} {x1 : Int} {r : TItem × Bool} (hF : F_impl_boxThere x0 x1 = some r) : PCalls Tryz.prog 104 [.lst false 9 (fl (enc_TItem false) x0) x0.length, .int .i64 x1] (.tup [.agg (enc_TItem true r.1), .bool r.2]) := by
 refine PCalls.of_r k_impl_boxThere rfl ?_
 unfold F_impl_boxThere at hF
 refine RW.sreg (rl.run 3 rfl (rl.done (RW.seq (RW.sreg (rl.run 2 rfl ?_)))))
 obtain ⟨v1, e1, h1⟩ := bindS hF
 refine rl.call rfl rfl rfl (CallW.embR [0] ok_impl_latest (law_impl_latest_boxThere_1_bySeq e1) (.cells rfl rfl (.keep .int .nil) .nil) rfl rfl (.cons (.dat (ek_TItem.rlst)) (.cons (RnL.fn (.cons (.ptr rfl) .nil)) (.cons (RnL.fn .nil) .nil))) (.tup (fac (.agg (sc_TItem _ _)) (fac .bool fan))) ?_)
 refine rl.run 6 rfl (rl.done (RW.sreg (rl.run 1 rfl (rl.done ?_))))
 cases hb : v1.2
 ·have h2 := iteBF h1 hb
  refine RW.cond_f rfl (RW.skip (RW.sreg (rl.run 2 rfl ?_)))
  obtain ⟨v2, e2, h3⟩ := bindS h2
  refine rl.call rfl rfl rfl (CallW.embR [0] ok_impl_latest (law_impl_latest_boxThere_2_byNext e2) (.cells rfl rfl (.keep .int .nil) .nil) rfl rfl (.cons (.dat (ek_TItem.rlst)) (.cons (RnL.fn (.cons (.ptr rfl) .nil)) (.cons (RnL.fn .nil) .nil))) (.tup (fac (.agg (sc_TItem _ _)) (fac .bool fan))) ?_)
  refine rl.run 4 rfl (rl.done ?_)
  refine RW.keep [4, 5] (a' := [(4, .ptr 1 0), (5, .bool v2.2)]) (H' := [some ⟨[.int .i64 x1], 0⟩, some ⟨[.int .i64 v2.1.Seq, .int .i64 v2.1.Rec.Kind, .int .i64 v2.1.Rec.Valid, .int .i64 v2.1.Rec.Uid, .int .i64 v2.1.Rec.Next, .int .i64 v2.1.Rec.Flags, .str v2.1.Rec.User, .str v2.1.Rec.Name, .str v2.1.Rec.Text], 0⟩, some ⟨[.int .i64 v1.1.Seq, .int .i64 v1.1.Rec.Kind, .int .i64 v1.1.Rec.Valid, .int .i64 v1.1.Rec.Uid, .int .i64 v1.1.Rec.Next, .int .i64 v1.1.Rec.Flags, .str v1.1.Rec.User, .str v1.1.Rec.Name, .str v1.1.Rec.Text], 0⟩]) rfl rfl ?_
  refine RW.ret ?_
  cases h3
  exact RRet.mk rfl (OutT.tup (.cons (OutL.agg (.cons .int rfl (.cons .int rfl (.cons .int rfl (.cons .int rfl (.cons .int rfl (.cons .int rfl (.cons .str rfl (.cons .str rfl (.cons .str rfl .nil)))))))))) (.cons .bool .nil))) (by first | decide | simp)
 ·have h4 := iteBT h1 hb
  refine RW.cond_t rfl (RW.sreg (rl.run 3 rfl (rl.done ?_)))
  refine RW.keep [4, 5] (a' := [(4, .ptr 1 0), (5, .bool false)]) (H' := [some ⟨[.int .i64 x1], 0⟩, some ⟨[.int .i64 0, .int .i64 0, .int .i64 0, .int .i64 0, .int .i64 0, .int .i64 0, .str [], .str [], .str []], 0⟩, some ⟨[.int .i64 v1.1.Seq, .int .i64 v1.1.Rec.Kind, .int .i64 v1.1.Rec.Valid, .int .i64 v1.1.Rec.Uid, .int .i64 v1.1.Rec.Next, .int .i64 v1.1.Rec.Flags, .str v1.1.Rec.User, .str v1.1.Rec.Name, .str v1.1.Rec.Text], 0⟩]) rfl rfl ?_
  refine RW.ret ?_
  cases h4
  exact RRet.mk rfl (OutT.tup (.cons (OutL.agg (.cons .int rfl (.cons .int rfl (.cons .int rfl (.cons .int rfl (.cons .int rfl (.cons .int rfl (.cons .str rfl (.cons .str rfl (.cons .str rfl .nil)))))))))) (.cons .bool .nil))) (by first | decide | simp)
theorem law_impl_boxState_1_w {x0 : TRec} {x1c0 : Int} {r : Int × Bool} (hF : F_impl_boxState_1_w x0 x1c0 = some r) : PCalls Tryz.prog 168 [.agg (enc_TRec false x0), .el [.int .i64 x1c0] 0] (.tup [.int .i64 r.1, .bool r.2]) := by
 refine PCalls.of_r k_impl_boxState_1 rfl ?_
 unfold F_impl_boxState_1_w at hF
 refine RW.sreg (rl.run 3 rfl (rl.done (RW.sdrw (rdraw.op rfl rfl (rdraw.op rfl rfl (rdraw.op rfl rfl (rdraw.op rfl rfl ?_)))))))
 obtain ⟨v1, e1, h1⟩ := bindS hF
 refine rdraw.call rfl rfl rfl (CallW.val (r' := .bool v1) ok_impl_about (law_impl_about e1) (.cons (DFL.agg (.cons .int (.cons .int (.cons .int (.cons .int (.cons .int (.cons .str (.cons .str (.cons .str .nil))))))))) (.cons .int (.cons .int .nil))) .refl ⟨rfl, ?_⟩)
 cases hb : v1
 ·have h2 := iteBF h1 hb
  refine rdraw.op rfl rfl (rdraw.op rfl rfl (rdraw.op rfl rfl ?_))
  obtain ⟨v2, e2, h3⟩ := bindS h2
  refine rdraw.call rfl rfl rfl (CallW.val (r' := .bool v2) ok_impl_about (law_impl_about e2) (.cons (DFL.agg (.cons .int (.cons .int (.cons .int (.cons .int (.cons .int (.cons .str (.cons .str (.cons .str .nil))))))))) (.cons .int (.cons .int .nil))) .refl ⟨rfl, ?_⟩)
  refine rdraw.op rfl rfl (rdraw.op rfl rfl (rdraw.op rfl rfl (rdraw.done ?_)))
  refine RW.keep [3, 4] (a' := [(3, .int .i64 x0.Uid), (4, .bool v2)]) (H' := [some ⟨[.int .i64 x0.Kind, .int .i64 x0.Valid, .int .i64 x0.Uid, .int .i64 x0.Next, .int .i64 x0.Flags, .str x0.User, .str x0.Name, .str x0.Text], 0⟩]) rfl rfl ?_
  refine RW.ret ?_
  cases h3
  exact RRet.mk rfl (OutT.tup (.cons .int (.cons .bool .nil))) (by first | decide | simp)
 ·have h4 := iteBT h1 hb
  refine rdraw.op rfl rfl (rdraw.off rfl (rdraw.off rfl (rdraw.off rfl (rdraw.op rfl rfl (rdraw.op rfl rfl (rdraw.op rfl rfl (rdraw.done ?_)))))))
  refine RW.keep [3, 4] (a' := [(3, .int .i64 x0.Uid), (4, .bool true)]) (H' := [some ⟨[.int .i64 x0.Kind, .int .i64 x0.Valid, .int .i64 x0.Uid, .int .i64 x0.Next, .int .i64 x0.Flags, .str x0.User, .str x0.Name, .str x0.Text], 0⟩]) rfl rfl ?_
  refine RW.ret ?_
  cases h4
  exact RRet.mk rfl (OutT.tup (.cons .int (.cons .bool .nil))) (by first | decide | simp)
theorem law_impl_numbers_boxState_1 {x0 : List TItem} {x1ac0 : Int} {r : List Int} (hF : F_impl_numbers_boxState_1 x0 x1ac0 = some r) : PCalls Tryz.prog 102 [.lst false 9 (fl (enc_TItem false) x0) x0.length, .fn 168 [.el [.int .i64 x1ac0] 0]] (.lst true 1 (fl (encI true) r) r.length) := by
 refine PCalls.of_r k_impl_numbers rfl ?_
 unfold F_impl_numbers_boxState_1 at hF
 refine RW.sreg (rl.run 1 rfl (rl.done (RW.sreg (rl.run 2 rfl (rl.done (RW.seq (RW.sreg (rl.run 3 rfl (rl.done ?_)))))))))
 refine RW.gh (Gh.nil_t 5 1 rfl) ?_
 obtain ⟨y6, ey6, h2⟩ := bindS hF
 refine RW.cutq (σ := (List Int)) (fun y2 => [(5, .sl 0 0 y2.length)]) (fun y2 => [some ⟨fl (encI true) y2, 1⟩]) (fun y => y6 = y) (fun _ _ _ _ g h => RW.gh g h) ?_ ?_
 ·refine RW.blk ?_
  refine RW.iter (σ := Int × (List Int)) ey6 (fun s1 => [(1, .fn 168 [.el [.int .i64 x1ac0] 0]), (5, .sl 0 0 s1.2.length), (11, .lst false 9 (fl (enc_TItem false) x0) x0.length), (12, .int .i64 (x0.length : Int)), (13, .int .i64 s1.1)]) (fun s1 => [some ⟨fl (encI true) s1.2, 1⟩]) (Gh.ren0 [0] (.same rfl (ekI.fref _ _) .nil) rfl (.cons rfl (RnL.fn (.cons (.dat (.el (fac .int fan))) .nil)) (.cons rfl (.slq rfl rfl) (.cons rfl (.dat (ek_TItem.rlst)) (.cons rfl (.dat .int) (.cons rfl (.dat .int) .nil)))))) (fun s1 B o hS1 hB1 hE1 => ?_)
  unfold S_impl_numbers_boxState_1_1 at hS1
  refine RW.sreg ?_
  refine rl.gen rfl rfl fun b hb => ?_
  cases b
  ·have h3 := iteBF hS1 hb
   refine rl.done (RW.seq (RW.cond_f rfl (RW.exit (blkA_eq ?_))))
   cases h3
   exact ⟨_, (hE1 _ rfl).symm, (Gh.ren0 [0] (.same rfl (ekI.fref _ _) .nil) rfl (.cons rfl (.slq rfl rfl) .nil))⟩
  ·have h4 := iteBT hS1 hb
   refine rl.done (RW.seq (RW.cond_t rfl (RW.skip (RW.seq (RW.blk (RW.sreg ?_))))))
   obtain ⟨v3, e3, h5⟩ := bindS h4
   refine rl.op (x_ia_lst (enc := enc_TItem) (o := false) rfl rfl rfl e3) ?_
   refine rl.op (x_ld_ela (off' := 0) (vs := (enc_TItem false v3)) ek_TItem rfl e3 rfl rfl rfl) ?_
   refine rl.run 2 rfl (rl.done (RW.sreg (rl.run 3 rfl ?_)))
   obtain ⟨v4, e4, h6⟩ := bindS h5
   refine rl.call rfl rfl rfl (CallW.valS (r' := .tup [.int .i64 v4.1, .bool v4.2]) ok_impl_boxState_1 (law_impl_boxState_1_w e4) (.cons (.of (DFL.agg (.cons .int (.cons .int (.cons .int (.cons .int (.cons .int (.cons .str (.cons .str (.cons .str .nil)))))))))) (.cons (DS.el (fac .int fan)) .nil)) (FlL.tup (.cons .refl (.cons .refl .nil))) ?_)
   refine rl.run 5 rfl (rl.done ?_)
   refine RW.keep [1, 5, 8, 9, 11, 12, 13] (a' := [(1, .fn 168 [.el [.int .i64 x1ac0] 0]), (5, .sl 0 0 s1.2.length), (8, .int .i64 v4.1), (9, .bool v4.2), (11, .lst false 9 (fl (enc_TItem false) x0) x0.length), (12, .int .i64 (x0.length : Int)), (13, .int .i64 s1.1)]) (H' := [some ⟨fl (encI true) s1.2, 1⟩, some ⟨[.int .i64 v3.Seq, .int .i64 v3.Rec.Kind, .int .i64 v3.Rec.Valid, .int .i64 v3.Rec.Uid, .int .i64 v3.Rec.Next, .int .i64 v3.Rec.Flags, .str v3.Rec.User, .str v3.Rec.Name, .str v3.Rec.Text], 0⟩]) rfl rfl ?_
   refine RW.sreg (rl.run 1 rfl (rl.done ?_))
   cases hb : v4.2
   ·have h7 := iteBF h6 hb
    refine RW.cond_f rfl (RW.skip (RW.reg (rl.run 2 rfl (rl.done ?_))))
    cases h7
    exact hB1 _ rfl _ _ (Gh.ren0 [0] (.same rfl (ekI.fref _ _) .nil) rfl (.cons rfl (RnL.fn (.cons (.dat (.el (fac .int fan))) .nil)) (.cons rfl (.slq rfl rfl) (.cons rfl (.dat (ek_TItem.rlst)) (.cons rfl (.dat .int) (.cons rfl (.dat .int) .nil))))))
   ·have h8 := iteBT h6 hb
    refine RW.cond_t rfl (RW.reg (rl.run 3 rfl ?_))
    obtain ⟨v5, e5, h9⟩ := bindS h8
    refine rl.op (x_app rfl rfl (rapp_sl (l := s1.2) (m := [v4.1]) (o := true) ekI rfl rfl (acont_slq (m := [v4.1]) (o := true) fkI rfl rfl) rfl (fkI.fst _ _) e5)) ?_
    refine rl.run 1 rfl (rl.done (RW.reg (rl.run 2 rfl (rl.done ?_))))
    cases h9
    exact hB1 _ rfl _ _ (Gh.ren0 [3] (.same rfl (ekI.fref _ _) .nil) rfl (.cons rfl (RnL.fn (.cons (.dat (.el (fac .int fan))) .nil)) (.cons rfl (.slq rfl rfl) (.cons rfl (.dat (ek_TItem.rlst)) (.cons rfl (.dat .int) (.cons rfl (.dat .int) .nil))))))
 ·intro y2 hC
  subst hC
  refine RW.sreg (rl.run 1 rfl ?_)
  obtain ⟨v7, e7, h10⟩ := bindS h2
  refine rl.call rfl rfl rfl (CallW.sortI (H' := [some ⟨fl (encI true) v7, 1⟩]) lay_slices_Sort_int e7 rfl rfl rfl rfl ?_)
  refine rl.done (RW.sreg (rl.run 1 rfl ?_))
  obtain ⟨v8, e8, h11⟩ := bindS h10
  refine rl.call rfl rfl rfl (CallW.compI (H' := [some ⟨fl (encI true) v8, 1⟩]) lay_slices_Compact_int e8 rfl ((sort?_length e7)).symm rfl rfl ?_)
  refine rl.run 1 rfl (rl.done (RW.ret ?_))
  cases h11
  exact RRet.mk rfl (OutR.ownq ekI rfl rfl) (by first | decide | simp)
theorem law_impl_mailItem_1_w {x0 : TRec} {x1 : Int} {x2 : Int} {x3 : Int} {r : Bool} (hF : F_impl_mailItem_1_w x0 x1 x2 x3 = some r) : ACalls Tryz.prog 3 202 [.agg (enc_TRec false x0), .ptr 0 0, .ptr 1 0, .ptr 2 0] [some ⟨[.int .i64 x1], 0⟩, some ⟨[.int .i64 x2], 0⟩, some ⟨[.int .i64 x3], 0⟩] (.bool r) [some ⟨[.int .i64 x1], 0⟩, some ⟨[.int .i64 x2], 0⟩, some ⟨[.int .i64 x3], 0⟩] := by
 refine ACalls.of_s k_impl_mailItem_1 rfl ?_
 unfold F_impl_mailItem_1_w at hF
 refine RW.sreg (rl.run 2 rfl (rl.done (RW.sreg (rl.run 3 rfl ?_))))
 obtain ⟨v1, e1, h1⟩ := bindS hF
 refine rl.call rfl rfl rfl (CallW.val (r' := .bool v1) ok_impl_about (law_impl_about e1) (.cons (DFL.agg (.cons .int (.cons .int (.cons .int (.cons .int (.cons .int (.cons .str (.cons .str (.cons .str .nil))))))))) (.cons .int (.cons .int .nil))) .refl ?_)
 cases hb : v1
 ·have h2 := iteBF h1 hb
  refine rl.run 7 rfl (rl.done ?_)
  refine RW.keep [5] (a' := [(5, .bool false)]) (H' := [some ⟨[.int .i64 x1], 0⟩, some ⟨[.int .i64 x2], 0⟩, some ⟨[.int .i64 x3], 0⟩, some ⟨[.int .i64 x0.Kind, .int .i64 x0.Valid, .int .i64 x0.Uid, .int .i64 x0.Next, .int .i64 x0.Flags, .str x0.User, .str x0.Name, .str x0.Text], 0⟩]) rfl rfl ?_
  refine RW.ret ?_
  cases h2
  exact RRetS.mk rfl .bool (Gh.renN [0, 1, 2] (.cells rfl rfl (.keep .int .nil) (.cells rfl rfl (.keep .int .nil) (.cells rfl rfl (.keep .int .nil) .nil))) rfl rfl rfl .nil)
 ·have h3 := iteBT h1 hb
  refine rl.run 7 rfl (rl.done ?_)
  refine RW.keep [5] (a' := [(5, .bool (x0.Uid == x3))]) (H' := [some ⟨[.int .i64 x1], 0⟩, some ⟨[.int .i64 x2], 0⟩, some ⟨[.int .i64 x3], 0⟩, some ⟨[.int .i64 x0.Kind, .int .i64 x0.Valid, .int .i64 x0.Uid, .int .i64 x0.Next, .int .i64 x0.Flags, .str x0.User, .str x0.Name, .str x0.Text], 0⟩]) rfl rfl ?_
  refine RW.ret ?_
  cases h3
  exact RRetS.mk rfl .bool (Gh.renN [0, 1, 2] (.cells rfl rfl (.keep .int .nil) (.cells rfl rfl (.keep .int .nil) (.cells rfl rfl (.keep .int .nil) .nil))) rfl rfl rfl .nil)
theorem law_impl_latest_mailItem_1_bySeq {x0 : List TItem} {x1 : Int} {x2 : Int} {x3 : Int} {r : TItem × Bool} (hF : F_impl_latest_mailItem_1_bySeq x0 x1 x2 x3 = some r) : ACalls Tryz.prog 3 162 [.lst false 9 (fl (enc_TItem false) x0) x0.length, .fn 202 [.ptr 0 0, .ptr 1 0, .ptr 2 0], .fn 165 []] [some ⟨[.int .i64 x1], 0⟩, some ⟨[.int .i64 x2], 0⟩, some ⟨[.int .i64 x3], 0⟩] (.tup [.agg (enc_TItem true r.1), .bool r.2]) [some ⟨[.int .i64 x1], 0⟩, some ⟨[.int .i64 x2], 0⟩, some ⟨[.int .i64 x3], 0⟩] := by
 refine ACalls.of_s k_impl_latest rfl ?_
 unfold F_impl_latest_mailItem_1_bySeq at hF
 refine RW.sreg (rl.run 2 rfl (rl.done (RW.sreg (rl.run 4 rfl (rl.done (RW.seq (RW.sreg (rl.run 3 rfl (rl.done ?_)))))))))
 obtain ⟨y7, ey7, h2⟩ := bindS hF
 refine RW.cutq (σ := Bool × Int × Int × Int × Int × Int × Int × (List UInt8) × (List UInt8) × (List UInt8)) (fun y2 => [(6, .ptr 3 0), (8, .ptr 4 0), (9, .bool y2.1)]) (fun y2 => [some ⟨[.int .i64 x1], 0⟩, some ⟨[.int .i64 x2], 0⟩, some ⟨[.int .i64 x3], 0⟩, some ⟨[.int .i64 0, .int .i64 0, .int .i64 0, .int .i64 0, .int .i64 0, .int .i64 0, .str [], .str [], .str []], 0⟩, some ⟨[.int .i64 y2.2.1, .int .i64 y2.2.2.1, .int .i64 y2.2.2.2.1, .int .i64 y2.2.2.2.2.1, .int .i64 y2.2.2.2.2.2.1, .int .i64 y2.2.2.2.2.2.2.1, .str y2.2.2.2.2.2.2.2.1, .str y2.2.2.2.2.2.2.2.2.1, .str y2.2.2.2.2.2.2.2.2.2], 0⟩]) (fun y => y7 = y) (fun _ _ _ _ g h => RW.gh g h) ?_ ?_
 ·refine RW.blk ?_
  refine RW.iter (σ := Bool × Int × Int × Int × Int × Int × Int × Int × (List UInt8) × (List UInt8) × (List UInt8)) ey7 (fun s1 => [(1, .fn 202 [.ptr 0 0, .ptr 1 0, .ptr 2 0]), (2, .fn 165 []), (6, .ptr 3 0), (8, .ptr 4 0), (9, .bool s1.1), (13, .lst false 9 (fl (enc_TItem false) x0) x0.length), (14, .int .i64 (x0.length : Int)), (15, .int .i64 s1.2.1)]) (fun s1 => [some ⟨[.int .i64 x1], 0⟩, some ⟨[.int .i64 x2], 0⟩, some ⟨[.int .i64 x3], 0⟩, some ⟨[.int .i64 0, .int .i64 0, .int .i64 0, .int .i64 0, .int .i64 0, .int .i64 0, .str [], .str [], .str []], 0⟩, some ⟨[.int .i64 s1.2.2.1, .int .i64 s1.2.2.2.1, .int .i64 s1.2.2.2.2.1, .int .i64 s1.2.2.2.2.2.1, .int .i64 s1.2.2.2.2.2.2.1, .int .i64 s1.2.2.2.2.2.2.2.1, .str s1.2.2.2.2.2.2.2.2.1, .str s1.2.2.2.2.2.2.2.2.2.1, .str s1.2.2.2.2.2.2.2.2.2.2], 0⟩]) (Gh.renN [0, 1, 2, 3, 4] (.cells rfl rfl (.keep .int .nil) (.cells rfl rfl (.keep .int .nil) (.cells rfl rfl (.keep .int .nil) (.cells rfl rfl (.keep .int (.keep .int (.keep .int (.keep .int (.keep .int (.keep .int (.keep .str (.keep .str (.keep .str .nil))))))))) (.cells rfl rfl (.keep .int (.keep .int (.keep .int (.keep .int (.keep .int (.keep .int (.keep .str (.keep .str (.keep .str .nil))))))))) .nil))))) rfl rfl rfl (.cons rfl (RnL.fn (.cons (.ptr rfl) (.cons (.ptr rfl) (.cons (.ptr rfl) .nil)))) (.cons rfl (RnL.fn .nil) (.cons rfl (.ptr rfl) (.cons rfl (.ptr rfl) (.cons rfl (.dat .bool) (.cons rfl (.dat (ek_TItem.rlst)) (.cons rfl (.dat .int) (.cons rfl (.dat .int) .nil))))))))) (fun s1 B o hS1 hB1 hE1 => ?_)
  unfold S_impl_latest_mailItem_1_bySeq_1 at hS1
  refine RW.sreg ?_
  refine rl.gen rfl rfl fun b hb => ?_
  cases b
  ·have h3 := iteBF hS1 hb
   refine rl.done (RW.seq (RW.cond_f rfl (RW.exit (blkA_eq ?_))))
   cases h3
   exact ⟨_, (hE1 _ rfl).symm, (Gh.renN [0, 1, 2, 3, 4] (.cells rfl rfl (.keep .int .nil) (.cells rfl rfl (.keep .int .nil) (.cells rfl rfl (.keep .int .nil) (.cells rfl rfl (.keep .int (.keep .int (.keep .int (.keep .int (.keep .int (.keep .int (.keep .str (.keep .str (.keep .str .nil))))))))) (.cells rfl rfl (.keep .int (.keep .int (.keep .int (.keep .int (.keep .int (.keep .int (.keep .str (.keep .str (.keep .str .nil))))))))) .nil))))) rfl rfl rfl (.cons rfl (.ptr rfl) (.cons rfl (.ptr rfl) (.cons rfl (.dat .bool) .nil))))⟩
  ·have h4 := iteBT hS1 hb
   refine rl.done (RW.seq (RW.cond_t rfl (RW.skip (RW.seq (RW.blk (RW.sreg ?_))))))
   obtain ⟨v3, e3, h5⟩ := bindS h4
   refine rl.op (x_ia_lst (enc := enc_TItem) (o := false) rfl rfl rfl e3) ?_
   refine rl.op (x_ld_ela (off' := 0) (vs := (enc_TItem false v3)) ek_TItem rfl e3 rfl rfl rfl) ?_
   refine rl.run 2 rfl (rl.done (RW.seq ?_))
   obtain ⟨y4, ey4, h6⟩ := bindS h5
   refine RW.cutq (σ := Bool) (fun y4 => [(1, .fn 202 [.ptr 0 0, .ptr 1 0, .ptr 2 0]), (2, .fn 165 []), (6, .ptr 3 0), (8, .ptr 4 0), (9, .bool s1.1), (11, .ptr 5 0), (13, .lst false 9 (fl (enc_TItem false) x0) x0.length), (14, .int .i64 (x0.length : Int)), (15, .int .i64 s1.2.1), (32, .bool y4)]) (fun y4 => [some ⟨[.int .i64 x1], 0⟩, some ⟨[.int .i64 x2], 0⟩, some ⟨[.int .i64 x3], 0⟩, some ⟨[.int .i64 0, .int .i64 0, .int .i64 0, .int .i64 0, .int .i64 0, .int .i64 0, .str [], .str [], .str []], 0⟩, some ⟨[.int .i64 s1.2.2.1, .int .i64 s1.2.2.2.1, .int .i64 s1.2.2.2.2.1, .int .i64 s1.2.2.2.2.2.1, .int .i64 s1.2.2.2.2.2.2.1, .int .i64 s1.2.2.2.2.2.2.2.1, .str s1.2.2.2.2.2.2.2.2.1, .str s1.2.2.2.2.2.2.2.2.2.1, .str s1.2.2.2.2.2.2.2.2.2.2], 0⟩, some ⟨[.int .i64 v3.Seq, .int .i64 v3.Rec.Kind, .int .i64 v3.Rec.Valid, .int .i64 v3.Rec.Uid, .int .i64 v3.Rec.Next, .int .i64 v3.Rec.Flags, .str v3.Rec.User, .str v3.Rec.Name, .str v3.Rec.Text], 0⟩]) (fun y => y4 = y) (fun _ _ _ _ g h => RW.gh g h) ?_ ?_
   ·refine RW.reg ?_
    refine rl.run 3 rfl ?_
    obtain ⟨v5, e5, h7⟩ := bindS ey4
    refine rl.call rfl rfl rfl (CallW.embR [0, 1, 2] ok_impl_mailItem_1 (law_impl_mailItem_1_w e5) (.cells rfl rfl (.keep .int .nil) (.cells rfl rfl (.keep .int .nil) (.cells rfl rfl (.keep .int .nil) .nil))) rfl rfl (.cons (RnL.agg (.cons (.dat .int) (.cons (.dat .int) (.cons (.dat .int) (.cons (.dat .int) (.cons (.dat .int) (.cons (.dat .str) (.cons (.dat .str) (.cons (.dat .str) .nil))))))))) (.cons (.ptr rfl) (.cons (.ptr rfl) (.cons (.ptr rfl) .nil)))) .bool ?_)
    cases hb : v5
    ·have h8 := iteBF h7 hb
     refine rl.run 10 rfl (rl.done ?_)
     cases h8
     exact ⟨_, rfl, (Gh.renN [0, 1, 2, 3, 4, 5] (.cells rfl rfl (.keep .int .nil) (.cells rfl rfl (.keep .int .nil) (.cells rfl rfl (.keep .int .nil) (.cells rfl rfl (.keep .int (.keep .int (.keep .int (.keep .int (.keep .int (.keep .int (.keep .str (.keep .str (.keep .str .nil))))))))) (.cells rfl rfl (.keep .int (.keep .int (.keep .int (.keep .int (.keep .int (.keep .int (.keep .str (.keep .str (.keep .str .nil))))))))) (.cells rfl rfl (.keep .int (.keep .int (.keep .int (.keep .int (.keep .int (.keep .int (.keep .str (.keep .str (.keep .str .nil))))))))) .nil)))))) rfl rfl rfl (.cons rfl (RnL.fn (.cons (.ptr rfl) (.cons (.ptr rfl) (.cons (.ptr rfl) .nil)))) (.cons rfl (RnL.fn .nil) (.cons rfl (.ptr rfl) (.cons rfl (.ptr rfl) (.cons rfl (.dat .bool) (.cons rfl (.ptr rfl) (.cons rfl (.dat (ek_TItem.rlst)) (.cons rfl (.dat .int) (.cons rfl (.dat .int) (.cons rfl (.dat .bool) .nil)))))))))))⟩
    ·have h9 := iteBT h7 hb
     refine rl.run 4 rfl ?_
     cases hb : (!s1.1)
     ·have h10 := iteBF h9 hb
      refine rl.run 3 rfl ?_
      obtain ⟨v6, e6, h11⟩ := bindS h10
      refine rl.call rfl rfl rfl (CallW.val (r' := .bool v6) ok_impl_bySeq (law_impl_bySeq e6) (.cons (DFL.agg (.cons .int (.cons .int (.cons .int (.cons .int (.cons .int (.cons .int (.cons .str (.cons .str (.cons .str .nil)))))))))) (.cons (DFL.agg (.cons .int (.cons .int (.cons .int (.cons .int (.cons .int (.cons .int (.cons .str (.cons .str (.cons .str .nil)))))))))) .nil)) .refl ?_)
      cases hb : v6
      ·have h12 := iteBF h11 hb
       refine rl.run 2 rfl (rl.done ?_)
       cases h12
       exact ⟨_, rfl, (Gh.renN [0, 1, 2, 3, 4, 5] (.cells rfl rfl (.keep .int .nil) (.cells rfl rfl (.keep .int .nil) (.cells rfl rfl (.keep .int .nil) (.cells rfl rfl (.keep .int (.keep .int (.keep .int (.keep .int (.keep .int (.keep .int (.keep .str (.keep .str (.keep .str .nil))))))))) (.cells rfl rfl (.keep .int (.keep .int (.keep .int (.keep .int (.keep .int (.keep .int (.keep .str (.keep .str (.keep .str .nil))))))))) (.cells rfl rfl (.keep .int (.keep .int (.keep .int (.keep .int (.keep .int (.keep .int (.keep .str (.keep .str (.keep .str .nil))))))))) .nil)))))) rfl rfl rfl (.cons rfl (RnL.fn (.cons (.ptr rfl) (.cons (.ptr rfl) (.cons (.ptr rfl) .nil)))) (.cons rfl (RnL.fn .nil) (.cons rfl (.ptr rfl) (.cons rfl (.ptr rfl) (.cons rfl (.dat .bool) (.cons rfl (.ptr rfl) (.cons rfl (.dat (ek_TItem.rlst)) (.cons rfl (.dat .int) (.cons rfl (.dat .int) (.cons rfl (.dat .bool) .nil)))))))))))⟩
      ·have h13 := iteBT h11 hb
       refine rl.run 2 rfl (rl.done ?_)
       cases h13
       exact ⟨_, rfl, (Gh.renN [0, 1, 2, 3, 4, 5] (.cells rfl rfl (.keep .int .nil) (.cells rfl rfl (.keep .int .nil) (.cells rfl rfl (.keep .int .nil) (.cells rfl rfl (.keep .int (.keep .int (.keep .int (.keep .int (.keep .int (.keep .int (.keep .str (.keep .str (.keep .str .nil))))))))) (.cells rfl rfl (.keep .int (.keep .int (.keep .int (.keep .int (.keep .int (.keep .int (.keep .str (.keep .str (.keep .str .nil))))))))) (.cells rfl rfl (.keep .int (.keep .int (.keep .int (.keep .int (.keep .int (.keep .int (.keep .str (.keep .str (.keep .str .nil))))))))) .nil)))))) rfl rfl rfl (.cons rfl (RnL.fn (.cons (.ptr rfl) (.cons (.ptr rfl) (.cons (.ptr rfl) .nil)))) (.cons rfl (RnL.fn .nil) (.cons rfl (.ptr rfl) (.cons rfl (.ptr rfl) (.cons rfl (.dat .bool) (.cons rfl (.ptr rfl) (.cons rfl (.dat (ek_TItem.rlst)) (.cons rfl (.dat .int) (.cons rfl (.dat .int) (.cons rfl (.dat .bool) .nil)))))))))))⟩
     ·have h14 := iteBT h9 hb
      refine rl.run 6 rfl (rl.done ?_)
      cases h14
      exact ⟨_, rfl, (Gh.renN [0, 1, 2, 3, 4, 5] (.cells rfl rfl (.keep .int .nil) (.cells rfl rfl (.keep .int .nil) (.cells rfl rfl (.keep .int .nil) (.cells rfl rfl (.keep .int (.keep .int (.keep .int (.keep .int (.keep .int (.keep .int (.keep .str (.keep .str (.keep .str .nil))))))))) (.cells rfl rfl (.keep .int (.keep .int (.keep .int (.keep .int (.keep .int (.keep .int (.keep .str (.keep .str (.keep .str .nil))))))))) (.cells rfl rfl (.keep .int (.keep .int (.keep .int (.keep .int (.keep .int (.keep .int (.keep .str (.keep .str (.keep .str .nil))))))))) .nil)))))) rfl rfl rfl (.cons rfl (RnL.fn (.cons (.ptr rfl) (.cons (.ptr rfl) (.cons (.ptr rfl) .nil)))) (.cons rfl (RnL.fn .nil) (.cons rfl (.ptr rfl) (.cons rfl (.ptr rfl) (.cons rfl (.dat .bool) (.cons rfl (.ptr rfl) (.cons rfl (.dat (ek_TItem.rlst)) (.cons rfl (.dat .int) (.cons rfl (.dat .int) (.cons rfl (.dat .bool) .nil)))))))))))⟩
   ·intro y hC
    subst hC
    cases hb : y4
    ·have h15 := iteBF h6 hb
     refine RW.cond_f rfl (RW.skip (RW.reg (rl.run 2 rfl (rl.done ?_))))
     cases h15
     exact hB1 _ rfl _ _ (Gh.renN [0, 1, 2, 3, 4] (.cells rfl rfl (.keep .int .nil) (.cells rfl rfl (.keep .int .nil) (.cells rfl rfl (.keep .int .nil) (.cells rfl rfl (.keep .int (.keep .int (.keep .int (.keep .int (.keep .int (.keep .int (.keep .str (.keep .str (.keep .str .nil))))))))) (.cells rfl rfl (.keep .int (.keep .int (.keep .int (.keep .int (.keep .int (.keep .int (.keep .str (.keep .str (.keep .str .nil))))))))) .nil))))) rfl rfl rfl (.cons rfl (RnL.fn (.cons (.ptr rfl) (.cons (.ptr rfl) (.cons (.ptr rfl) .nil)))) (.cons rfl (RnL.fn .nil) (.cons rfl (.ptr rfl) (.cons rfl (.ptr rfl) (.cons rfl (.dat .bool) (.cons rfl (.dat (ek_TItem.rlst)) (.cons rfl (.dat .int) (.cons rfl (.dat .int) .nil)))))))))
    ·have h16 := iteBT h6 hb
     refine RW.cond_t rfl (RW.reg (rl.run 3 rfl (rl.done (RW.reg (rl.run 2 rfl (rl.done ?_))))))
     cases h16
     exact hB1 _ rfl _ _ (Gh.renN [0, 1, 2, 3, 4] (.cells rfl rfl (.keep .int .nil) (.cells rfl rfl (.keep .int .nil) (.cells rfl rfl (.keep .int .nil) (.cells rfl rfl (.keep .int (.keep .int (.keep .int (.keep .int (.keep .int (.keep .int (.keep .str (.keep .str (.keep .str .nil))))))))) (.cells rfl rfl (.keep .int (.keep .int (.keep .int (.keep .int (.keep .int (.keep .int (.keep .str (.keep .str (.keep .str .nil))))))))) .nil))))) rfl rfl rfl (.cons rfl (RnL.fn (.cons (.ptr rfl) (.cons (.ptr rfl) (.cons (.ptr rfl) .nil)))) (.cons rfl (RnL.fn .nil) (.cons rfl (.ptr rfl) (.cons rfl (.ptr rfl) (.cons rfl (.dat .bool) (.cons rfl (.dat (ek_TItem.rlst)) (.cons rfl (.dat .int) (.cons rfl (.dat .int) .nil)))))))))
 ·intro y2 hC
  subst hC
  refine RW.sreg (rl.run 4 rfl (rl.done (RW.ret ?_)))
  cases h2
  exact RRetS.mk rfl (.tup (fac (.agg (sc_TItem _ _)) (fac .bool fan))) (Gh.renN [0, 1, 2] (.cells rfl rfl (.keep .int .nil) (.cells rfl rfl (.keep .int .nil) (.cells rfl rfl (.keep .int .nil) .nil))) rfl rfl rfl .nil)
theorem law_impl_mailItem {x0 : List TItem} {x1 : Int} {x2 : Int} {x3 : Int} {r : TItem × Bool} (hF : F_impl_mailItem x0 x1 x2 x3 = some r) : PCalls Tryz.prog 170 [.lst false 9 (fl (enc_TItem false) x0) x0.length, .int .i64 x1, .int .i64 x2, .int .i64 x3] (.tup [.agg (enc_TItem true r.1), .bool r.2]) := by
 refine PCalls.of_r k_impl_mailItem rfl ?_
 unfold F_impl_mailItem at hF
 refine RW.sreg (rl.run 5 rfl (rl.done (RW.sreg (rl.run 2 rfl ?_))))
 obtain ⟨v1, e1, h1⟩ := bindS hF
 refine rl.call rfl rfl rfl (CallW.embR [0, 1, 2] ok_impl_latest (law_impl_latest_mailItem_1_bySeq e1) (.cells rfl rfl (.keep .int .nil) (.cells rfl rfl (.keep .int .nil) (.cells rfl rfl (.keep .int .nil) .nil))) rfl rfl (.cons (.dat (ek_TItem.rlst)) (.cons (RnL.fn (.cons (.ptr rfl) (.cons (.ptr rfl) (.cons (.ptr rfl) .nil)))) (.cons (RnL.fn .nil) .nil))) (.tup (fac (.agg (sc_TItem _ _)) (fac .bool fan))) ?_)
 refine rl.run 4 rfl (rl.done ?_)
 refine RW.keep [8, 9] (a' := [(8, .ptr 3 0), (9, .bool v1.2)]) (H' := [some ⟨[.int .i64 x1], 0⟩, some ⟨[.int .i64 x2], 0⟩, some ⟨[.int .i64 x3], 0⟩, some ⟨[.int .i64 v1.1.Seq, .int .i64 v1.1.Rec.Kind, .int .i64 v1.1.Rec.Valid, .int .i64 v1.1.Rec.Uid, .int .i64 v1.1.Rec.Next, .int .i64 v1.1.Rec.Flags, .str v1.1.Rec.User, .str v1.1.Rec.Name, .str v1.1.Rec.Text], 0⟩]) rfl rfl ?_
 refine RW.ret ?_
 cases h1
 exact RRet.mk rfl (OutT.tup (.cons (OutL.agg (.cons .int rfl (.cons .int rfl (.cons .int rfl (.cons .int rfl (.cons .int rfl (.cons .int rfl (.cons .str rfl (.cons .str rfl (.cons .str rfl .nil)))))))))) (.cons .bool .nil))) (by first | decide | simp)
theorem law_impl_mailThere {x0 : List TItem} {x1 : Int} {x2 : Int} {r : TItem × Bool} (hF : F_impl_mailThere x0 x1 x2 = some r) : PCalls Tryz.prog 169 [.lst false 9 (fl (enc_TItem false) x0) x0.length, .int .i64 x1, .int .i64 x2] (.tup [.agg (enc_TItem true r.1), .bool r.2]) := by
 refine PCalls.of_r k_impl_mailThere rfl ?_
 unfold F_impl_mailThere at hF
 refine RW.sreg (rl.run 2 rfl (rl.done (RW.seq (RW.sreg (rl.run 2 rfl ?_)))))
 obtain ⟨v1, e1, h1⟩ := bindS hF
 refine rl.call rfl rfl rfl (CallW.val (r' := .tup [.agg (enc_TItem false v1.1), .bool v1.2]) ok_impl_boxThere (law_impl_boxThere e1) (.cons (.lst ek_TItem) (.cons .int .nil)) (FlL.tup (.cons .refl (.cons .refl .nil))) ?_)
 refine rl.run 6 rfl (rl.done (RW.sreg (rl.run 2 rfl (rl.done ?_))))
 cases hb : (!v1.2)
 ·have h2 := iteBF h1 hb
  refine RW.cond_f rfl (RW.skip (RW.seq (RW.sreg (rl.run 3 rfl ?_))))
  obtain ⟨v2, e2, h3⟩ := bindS h2
  refine rl.call rfl rfl rfl (CallW.val (r' := .tup [.agg (enc_TItem false v2.1), .bool v2.2]) ok_impl_mailItem (law_impl_mailItem e2) (.cons (.lst ek_TItem) (.cons .int (.cons .int (.cons .int .nil)))) (FlL.tup (.cons .refl (.cons .refl .nil))) ?_)
  refine rl.run 6 rfl (rl.done ?_)
  refine RW.keep [0, 1, 2, 6, 11] (a' := [(0, .lst false 9 (fl (enc_TItem false) x0) x0.length), (1, .int .i64 x1), (2, .int .i64 x2), (6, .ptr 0 0), (11, .bool v2.2)]) (H' := [some ⟨[.int .i64 0, .int .i64 0, .int .i64 0, .int .i64 0, .int .i64 0, .int .i64 0, .str [], .str [], .str []], 0⟩, some ⟨[.int .i64 v1.1.Seq, .int .i64 v1.1.Rec.Kind, .int .i64 v1.1.Rec.Valid, .int .i64 v1.1.Rec.Uid, .int .i64 v1.1.Rec.Next, .int .i64 v1.1.Rec.Flags, .str v1.1.Rec.User, .str v1.1.Rec.Name, .str v1.1.Rec.Text], 0⟩, some ⟨[.int .i64 v2.1.Seq, .int .i64 v2.1.Rec.Kind, .int .i64 v2.1.Rec.Valid, .int .i64 v2.1.Rec.Uid, .int .i64 v2.1.Rec.Next, .int .i64 v2.1.Rec.Flags, .str v2.1.Rec.User, .str v2.1.Rec.Name, .str v2.1.Rec.Text], 0⟩]) rfl rfl ?_
  refine RW.sreg (rl.run 1 rfl (rl.done ?_))
  cases hb : v2.2
  ·have h4 := iteBF h3 hb
   refine RW.cond_f rfl (RW.skip (RW.sreg (rl.run 3 rfl ?_)))
   obtain ⟨v3, e3, h5⟩ := bindS h4
   refine rl.call rfl rfl rfl (CallW.val (r' := .tup [.agg (enc_TItem false v3.1), .bool v3.2]) ok_impl_mailItem (law_impl_mailItem e3) (.cons (.lst ek_TItem) (.cons .int (.cons .int (.cons .int .nil)))) (FlL.tup (.cons .refl (.cons .refl .nil))) ?_)
   refine rl.run 4 rfl (rl.done ?_)
   refine RW.keep [6, 7] (a' := [(6, .ptr 0 0), (7, .bool v3.2)]) (H' := [some ⟨[.int .i64 v3.1.Seq, .int .i64 v3.1.Rec.Kind, .int .i64 v3.1.Rec.Valid, .int .i64 v3.1.Rec.Uid, .int .i64 v3.1.Rec.Next, .int .i64 v3.1.Rec.Flags, .str v3.1.Rec.User, .str v3.1.Rec.Name, .str v3.1.Rec.Text], 0⟩, some ⟨[.int .i64 v1.1.Seq, .int .i64 v1.1.Rec.Kind, .int .i64 v1.1.Rec.Valid, .int .i64 v1.1.Rec.Uid, .int .i64 v1.1.Rec.Next, .int .i64 v1.1.Rec.Flags, .str v1.1.Rec.User, .str v1.1.Rec.Name, .str v1.1.Rec.Text], 0⟩, some ⟨[.int .i64 v2.1.Seq, .int .i64 v2.1.Rec.Kind, .int .i64 v2.1.Rec.Valid, .int .i64 v2.1.Rec.Uid, .int .i64 v2.1.Rec.Next, .int .i64 v2.1.Rec.Flags, .str v2.1.Rec.User, .str v2.1.Rec.Name, .str v2.1.Rec.Text], 0⟩]) rfl rfl ?_
   refine RW.ret ?_
   cases h5
   exact RRet.mk rfl (OutT.tup (.cons (OutL.agg (.cons .int rfl (.cons .int rfl (.cons .int rfl (.cons .int rfl (.cons .int rfl (.cons .int rfl (.cons .str rfl (.cons .str rfl (.cons .str rfl .nil)))))))))) (.cons .bool .nil))) (by first | decide | simp)
  ·have h6 := iteBT h3 hb
   refine RW.cond_t rfl (RW.sreg (rl.run 3 rfl (rl.done (RW.ret ?_))))
   cases h6
   exact RRet.mk rfl (OutT.tup (.cons (OutL.agg (.cons .int rfl (.cons .int rfl (.cons .int rfl (.cons .int rfl (.cons .int rfl (.cons .int rfl (.cons .str rfl (.cons .str rfl (.cons .str rfl .nil)))))))))) (.cons .bool .nil))) (by first | decide | simp)
 ·have h7 := iteBT h1 hb
  refine RW.cond_t rfl (RW.sreg (rl.run 3 rfl (rl.done ?_)))
  refine RW.keep [6, 7] (a' := [(6, .ptr 0 0), (7, .bool false)]) (H' := [some ⟨[.int .i64 0, .int .i64 0, .int .i64 0, .int .i64 0, .int .i64 0, .int .i64 0, .str [], .str [], .str []], 0⟩, some ⟨[.int .i64 v1.1.Seq, .int .i64 v1.1.Rec.Kind, .int .i64 v1.1.Rec.Valid, .int .i64 v1.1.Rec.Uid, .int .i64 v1.1.Rec.Next, .int .i64 v1.1.Rec.Flags, .str v1.1.Rec.User, .str v1.1.Rec.Name, .str v1.1.Rec.Text], 0⟩]) rfl rfl ?_
  refine RW.ret ?_
  cases h7
  exact RRet.mk rfl (OutT.tup (.cons (OutL.agg (.cons .int rfl (.cons .int rfl (.cons .int rfl (.cons .int rfl (.cons .int rfl (.cons .int rfl (.cons .str rfl (.cons .str rfl (.cons .str rfl .nil)))))))))) (.cons .bool .nil))) (by first | decide | simp)
set_option maxHeartbeats 2000000 in
theorem law_impl_boxState {x0 : List TItem} {x1 : TItem} {r : TBox} (hF : F_impl_boxState x0 x1 = some r) : PCalls Tryz.prog 105 [.lst false 9 (fl (enc_TItem false) x0) x0.length, .agg (enc_TItem false x1)] (.agg (enc_TBox true r)) := by
 refine PCalls.of_r k_impl_boxState rfl ?_
 unfold F_impl_boxState at hF
 refine RW.sreg (rl.run 2 rfl (rl.done (RW.sreg (rl.run 5 rfl (rl.done (RW.sreg (rl.run 13 rfl (rl.done ?_))))))))
 refine RW.keep [0, 4, 5, 6] (a' := [(0, .lst false 9 (fl (enc_TItem false) x0) x0.length), (4, .ptr 1 0), (5, .ptr 2 0), (6, .ptr 3 0)]) (H' := [some ⟨[.int .i64 x1.Seq, .int .i64 x1.Rec.Kind, .int .i64 x1.Rec.Valid, .int .i64 x1.Rec.Uid, .int .i64 x1.Rec.Next, .int .i64 x1.Rec.Flags, .str x1.Rec.User, .str x1.Rec.Name, .str x1.Rec.Text], 0⟩, some ⟨[.int .i64 0, .str [], .str [], .int .i64 0, .nils], 0⟩, some ⟨[.int .i64 x1.Rec.Valid], 0⟩, some ⟨[.int .i64 x1.Rec.Valid, .str x1.Rec.User, .str x1.Rec.Name, .int .i64 x1.Rec.Next, .nils], 0⟩]) rfl rfl ?_
 refine RW.sreg (rl.run 2 rfl ?_)
 obtain ⟨v1, e1, h1⟩ := bindS hF
 refine rl.call rfl rfl rfl (CallW.valS (r' := .lst false 1 (fl (encI false) v1) v1.length) ok_impl_numbers (law_impl_numbers_boxState_1 e1) (.cons (.of (.lst ek_TItem)) (.cons (DS.fn (.cons (DS.ptr rfl (fac .int fan)) .nil)) .nil)) (ekI.fflag _).lst ?_)
 refine rl.run 1 rfl (rl.done (RW.seq (RW.sreg (rl.run 3 rfl (rl.done ?_)))))
 refine RW.gh (Gh.nil_c 3 4 3 rfl rfl) ?_
 obtain ⟨y9, ey9, h3⟩ := bindS h1
 refine RW.cutq (σ := Int × (List TMail)) (fun y3 => [(4, .ptr 0 0), (6, .ptr 1 0)]) (fun y3 => [some ⟨[.int .i64 0, .str [], .str [], .int .i64 0, .nils], 0⟩, some ⟨[.int .i64 x1.Rec.Valid, .str x1.Rec.User, .str x1.Rec.Name, .int .i64 y3.1, .sl 2 0 y3.2.length], 0⟩, some ⟨fl (enc_TMail true) y3.2, 3⟩]) (fun y => y9 = y) (fun _ _ _ _ g h => RW.gh g h) ?_ ?_
 ·refine RW.blk ?_
  refine RW.iter (σ := Int × Int × (List TMail)) ey9 (fun s2 => [(0, .lst false 9 (fl (enc_TItem false) x0) x0.length), (4, .ptr 0 0), (5, .ptr 1 0), (6, .ptr 2 0), (32, .lst false 1 (fl (encI false) v1) v1.length), (33, .int .i64 (v1.length : Int)), (34, .int .i64 s2.1)]) (fun s2 => [some ⟨[.int .i64 0, .str [], .str [], .int .i64 0, .nils], 0⟩, some ⟨[.int .i64 x1.Rec.Valid], 0⟩, some ⟨[.int .i64 x1.Rec.Valid, .str x1.Rec.User, .str x1.Rec.Name, .int .i64 s2.2.1, .sl 3 0 s2.2.2.length], 0⟩, some ⟨fl (enc_TMail true) s2.2.2, 3⟩]) (Gh.ren0 [1, 2, 3, 4] (.cells rfl rfl (.keep .int (.keep .str (.keep .str (.keep .int (.keep .nils .nil))))) (.cells rfl rfl (.keep .int .nil) (.cells rfl rfl (.keep .int (.keep .str (.keep .str (.keep .int (.slq rfl rfl .nil))))) (.same rfl (ek_TMail.fref _ _) .nil)))) rfl (.cons rfl (.dat (ek_TItem.rlst)) (.cons rfl (.ptr rfl) (.cons rfl (.ptr rfl) (.cons rfl (.ptr rfl) (.cons rfl (.dat (ekI.rlst)) (.cons rfl (.dat .int) (.cons rfl (.dat .int) .nil)))))))) (fun s2 B o hS2 hB2 hE2 => ?_)
  unfold S_impl_boxState_1 at hS2
  refine RW.sreg ?_
  refine rl.gen rfl rfl fun b hb => ?_
  cases b
  ·have h4 := iteBF hS2 hb
   refine rl.done (RW.seq (RW.cond_f rfl (RW.exit (blkA_eq ?_))))
   cases h4
   exact ⟨_, (hE2 _ rfl).symm, (Gh.ren0 [0, 2, 3] (.cells rfl rfl (.keep .int (.keep .str (.keep .str (.keep .int (.keep .nils .nil))))) (.cells rfl rfl (.keep .int (.keep .str (.keep .str (.keep .int (.slq rfl rfl .nil))))) (.same rfl (ek_TMail.fref _ _) .nil))) rfl (.cons rfl (.ptr rfl) (.cons rfl (.ptr rfl) .nil)))⟩
  ·have h5 := iteBT hS2 hb
   refine rl.done (RW.seq (RW.cond_t rfl (RW.skip (RW.seq (RW.blk (RW.sreg ?_))))))
   obtain ⟨v4, e4, h6⟩ := bindS h5
   refine rl.op (x_ia_lst (enc := encI) (o := false) rfl rfl rfl e4) ?_
   refine rl.op (x_ld_el (off' := 0) ekI rfl e4 rfl rfl rfl) ?_
   refine rl.run 1 rfl (rl.done (RW.sreg (rl.run 7 rfl (rl.done (RW.sreg (rl.run 3 rfl ?_))))))
   obtain ⟨v5, e5, h7⟩ := bindS h6
   refine rl.call rfl rfl rfl (CallW.val (r' := .tup [.agg (enc_TItem false v5.1), .bool v5.2]) ok_impl_mailThere (law_impl_mailThere e5) (.cons (.lst ek_TItem) (.cons .int (.cons .int .nil))) (FlL.tup (.cons .refl (.cons .refl .nil))) ?_)
   refine rl.run 6 rfl (rl.done ?_)
   refine RW.keep [0, 4, 5, 6, 9, 10, 11, 32, 33, 34] (a' := [(0, .lst false 9 (fl (enc_TItem false) x0) x0.length), (4, .ptr 0 0), (5, .ptr 1 0), (6, .ptr 2 0), (9, .int .i64 v4), (10, .ptr 4 0), (11, .bool v5.2), (32, .lst false 1 (fl (encI false) v1) v1.length), (33, .int .i64 (v1.length : Int)), (34, .int .i64 s2.1)]) (H' := [some ⟨[.int .i64 0, .str [], .str [], .int .i64 0, .nils], 0⟩, some ⟨[.int .i64 x1.Rec.Valid], 0⟩, some ⟨[.int .i64 x1.Rec.Valid, .str x1.Rec.User, .str x1.Rec.Name, .int .i64 (if w64 (v4 + 1) > s2.2.1 then w64 (v4 + 1) else s2.2.1), .sl 3 0 s2.2.2.length], 0⟩, some ⟨fl (enc_TMail true) s2.2.2, 3⟩, some ⟨[.int .i64 v5.1.Seq, .int .i64 v5.1.Rec.Kind, .int .i64 v5.1.Rec.Valid, .int .i64 v5.1.Rec.Uid, .int .i64 v5.1.Rec.Next, .int .i64 v5.1.Rec.Flags, .str v5.1.Rec.User, .str v5.1.Rec.Name, .str v5.1.Rec.Text], 0⟩]) rfl rfl ?_
   refine RW.seq (RW.sreg (rl.run 2 rfl (rl.done ?_)))
   cases hb : (!v5.2)
   ·have h8 := iteBF h7 hb
    refine RW.cond_f rfl (RW.skip (RW.sreg (rl.run 10 rfl (rl.done ?_))))
    refine RW.keep [0, 4, 5, 6, 9, 12, 32, 33, 34] (a' := [(0, .lst false 9 (fl (enc_TItem false) x0) x0.length), (4, .ptr 0 0), (5, .ptr 1 0), (6, .ptr 2 0), (9, .int .i64 v4), (12, .ptr 5 0), (32, .lst false 1 (fl (encI false) v1) v1.length), (33, .int .i64 (v1.length : Int)), (34, .int .i64 s2.1)]) (H' := [some ⟨[.int .i64 0, .str [], .str [], .int .i64 0, .nils], 0⟩, some ⟨[.int .i64 x1.Rec.Valid], 0⟩, some ⟨[.int .i64 x1.Rec.Valid, .str x1.Rec.User, .str x1.Rec.Name, .int .i64 (if w64 (v4 + 1) > s2.2.1 then w64 (v4 + 1) else s2.2.1), .sl 3 0 s2.2.2.length], 0⟩, some ⟨fl (enc_TMail true) s2.2.2, 3⟩, some ⟨[.int .i64 v5.1.Seq, .int .i64 v5.1.Rec.Kind, .int .i64 v5.1.Rec.Valid, .int .i64 v5.1.Rec.Uid, .int .i64 v5.1.Rec.Next, .int .i64 v5.1.Rec.Flags, .str v5.1.Rec.User, .str v5.1.Rec.Name, .str v5.1.Rec.Text], 0⟩, some ⟨[.int .i64 v4, .int .i64 v5.1.Rec.Flags, .str v5.1.Rec.Text], 0⟩]) rfl rfl ?_
    refine RW.seq (RW.sreg (rl.run 3 rfl ?_))
    obtain ⟨v6, e6, h9⟩ := bindS h8
    refine rl.call rfl rfl rfl (CallW.val (r' := .tup [.agg (enc_TItem false v6.1), .bool v6.2]) ok_impl_mailItem (law_impl_mailItem e6) (.cons (.lst ek_TItem) (.cons .int (.cons .int (.cons .int .nil)))) (FlL.tup (.cons .refl (.cons .refl .nil))) ?_)
    refine rl.run 6 rfl (rl.done (RW.sreg (rl.run 1 rfl (rl.done ?_))))
    obtain ⟨y7, ey7, h10⟩ := bindS h9
    refine RW.cutq (σ := Int) (fun y7 => [(0, .lst false 9 (fl (enc_TItem false) x0) x0.length), (4, .ptr 0 0), (5, .ptr 1 0), (6, .ptr 2 0), (12, .ptr 3 0), (32, .lst false 1 (fl (encI false) v1) v1.length), (33, .int .i64 (v1.length : Int)), (34, .int .i64 s2.1)]) (fun y7 => [some ⟨[.int .i64 0, .str [], .str [], .int .i64 0, .nils], 0⟩, some ⟨[.int .i64 x1.Rec.Valid], 0⟩, some ⟨[.int .i64 x1.Rec.Valid, .str x1.Rec.User, .str x1.Rec.Name, .int .i64 (if w64 (v4 + 1) > s2.2.1 then w64 (v4 + 1) else s2.2.1), .sl 4 0 s2.2.2.length], 0⟩, some ⟨[.int .i64 v4, .int .i64 y7, .str v5.1.Rec.Text], 0⟩, some ⟨fl (enc_TMail true) s2.2.2, 3⟩]) (fun y => y7 = y) (fun _ _ _ _ g h => RW.gh g h) ?_ ?_
    ·cases hb : v6.2
     ·have h11 := iteBF ey7 hb
      refine RW.cond_f rfl (RW.skip ?_)
      cases h11
      exact ⟨_, rfl, (Gh.ren0 [0, 1, 2, 5, 3] (.cells rfl rfl (.keep .int (.keep .str (.keep .str (.keep .int (.keep .nils .nil))))) (.cells rfl rfl (.keep .int .nil) (.cells rfl rfl (.keep .int (.keep .str (.keep .str (.keep .int (.slq rfl rfl .nil))))) (.cells rfl rfl (.keep .int (.keep .int (.keep .str .nil))) (.same rfl (ek_TMail.fref _ _) .nil))))) rfl (.cons rfl (.dat (ek_TItem.rlst)) (.cons rfl (.ptr rfl) (.cons rfl (.ptr rfl) (.cons rfl (.ptr rfl) (.cons rfl (.ptr rfl) (.cons rfl (.dat (ekI.rlst)) (.cons rfl (.dat .int) (.cons rfl (.dat .int) .nil)))))))))⟩
     ·have h12 := iteBT ey7 hb
      refine RW.cond_t rfl (RW.reg (rl.run 5 rfl (rl.done ?_)))
      cases h12
      exact ⟨_, rfl, (Gh.ren0 [0, 1, 2, 5, 3] (.cells rfl rfl (.keep .int (.keep .str (.keep .str (.keep .int (.keep .nils .nil))))) (.cells rfl rfl (.keep .int .nil) (.cells rfl rfl (.keep .int (.keep .str (.keep .str (.keep .int (.slq rfl rfl .nil))))) (.cells rfl rfl (.keep .int (.keep .int (.keep .str .nil))) (.same rfl (ek_TMail.fref _ _) .nil))))) rfl (.cons rfl (.dat (ek_TItem.rlst)) (.cons rfl (.ptr rfl) (.cons rfl (.ptr rfl) (.cons rfl (.ptr rfl) (.cons rfl (.ptr rfl) (.cons rfl (.dat (ekI.rlst)) (.cons rfl (.dat .int) (.cons rfl (.dat .int) .nil)))))))))⟩
    ·intro y hC
     subst hC
     refine RW.reg (rl.run 4 rfl ?_)
     obtain ⟨v8, e8, h13⟩ := bindS h10
     refine rl.op (x_app rfl rfl (rapp_sl (l := s2.2.2) (m := [({ Uid := v4, Flags := y7, Text := v5.1.Rec.Text } : TMail)]) (o := true) ek_TMail rfl rfl (acont_slq (m := [({ Uid := v4, Flags := y7, Text := v5.1.Rec.Text } : TMail)]) (o := true) fk_TMail rfl rfl) rfl (fk_TMail.fst _ _) e8)) ?_
     refine rl.run 2 rfl (rl.done (RW.reg (rl.run 2 rfl (rl.done ?_))))
     cases h13
     exact hB2 _ rfl _ _ (Gh.ren0 [0, 1, 2, 6] (.cells rfl rfl (.keep .int (.keep .str (.keep .str (.keep .int (.keep .nils .nil))))) (.cells rfl rfl (.keep .int .nil) (.cells rfl rfl (.keep .int (.keep .str (.keep .str (.keep .int (.slq rfl rfl .nil))))) (.same rfl (ek_TMail.fref _ _) .nil)))) rfl (.cons rfl (.dat (ek_TItem.rlst)) (.cons rfl (.ptr rfl) (.cons rfl (.ptr rfl) (.cons rfl (.ptr rfl) (.cons rfl (.dat (ekI.rlst)) (.cons rfl (.dat .int) (.cons rfl (.dat .int) .nil))))))))
   ·have h14 := iteBT h7 hb
    refine RW.cond_t rfl (RW.exit (blkA_eq (RW.reg (rl.run 2 rfl (rl.done ?_)))))
    cases h14
    exact hB2 _ rfl _ _ (Gh.ren0 [0, 1, 2, 3] (.cells rfl rfl (.keep .int (.keep .str (.keep .str (.keep .int (.keep .nils .nil))))) (.cells rfl rfl (.keep .int .nil) (.cells rfl rfl (.keep .int (.keep .str (.keep .str (.keep .int (.slq rfl rfl .nil))))) (.same rfl (ek_TMail.fref _ _) .nil)))) rfl (.cons rfl (.dat (ek_TItem.rlst)) (.cons rfl (.ptr rfl) (.cons rfl (.ptr rfl) (.cons rfl (.ptr rfl) (.cons rfl (.dat (ekI.rlst)) (.cons rfl (.dat .int) (.cons rfl (.dat .int) .nil))))))))
 ·intro y3 hC
  subst hC
  refine RW.sreg (rl.run 2 rfl (rl.done (RW.ret ?_)))
  cases h3
  exact RRet.mk rfl (OutL.agg (.cons .int rfl (.cons .str rfl (.cons .str rfl (.cons .int rfl (.cons (OutR.ownq ek_TMail rfl rfl) rfl .nil)))))) (by first | decide | simp)
theorem law_impl_StateOf {x0 : List TItem} {r : TState} (hF : F_impl_StateOf x0 = some r) : PCalls Tryz.prog 53 [.lst false 9 (fl (enc_TItem false) x0) x0.length] (.agg (enc_TState true r)) := by
 refine PCalls.of_r k_impl_StateOf rfl ?_
 unfold F_impl_StateOf at hF
 refine RW.sreg (rl.run 1 rfl (rl.done (RW.seq (RW.sreg (rl.run 1 rfl ?_)))))
 obtain ⟨v1, e1, h1⟩ := bindS hF
 refine rl.call rfl rfl rfl (CallW.val (r' := .bool v1) ok_impl_ItemsOk (law_impl_ItemsOk e1) (.cons (.lst ek_TItem) .nil) .refl ?_)
 cases hb : v1
 ·have h2 := iteBF h1 hb
  refine rl.run 1 rfl (rl.done (RW.cond_t rfl (RW.sreg (rl.run 2 rfl (rl.done (RW.ret ?_))))))
  cases h2
  exact RRet.mk rfl (OutL.agg (.cons (OutR.nil (enc := enc_TBox)) rfl .nil)) (by first | decide | simp)
 ·have h3 := iteBT h1 hb
  refine rl.run 1 rfl (rl.done (RW.cond_f rfl (RW.skip (RW.sreg (rl.run 3 rfl (rl.done (RW.seq (RW.sreg (rl.run 1 rfl ?_)))))))))
  obtain ⟨v2, e2, h4⟩ := bindS h3
  refine rl.call rfl rfl rfl (CallW.val (r' := .lst false 1 (fl (encI false) v2) v2.length) ok_impl_numbers (law_impl_numbers_StateOf_1 e2) (.cons (.lst ek_TItem) (.cons .fn .nil)) (ekI.fflag _).lst ?_)
  refine rl.run 2 rfl (rl.done ?_)
  refine RW.gh (Gh.nil_c 1 0 5 rfl rfl) ?_
  obtain ⟨y9, ey9, h6⟩ := bindS h4
  refine RW.cutq (σ := (List TBox)) (fun y4 => [(2, .ptr 0 0), (3, .ptr 1 0)]) (fun y4 => [some ⟨[.nils], 0⟩, some ⟨[.sl 2 0 y4.length], 0⟩, some ⟨fl (enc_TBox true) y4, 5⟩]) (fun y => y9 = y) (fun _ _ _ _ g h => RW.gh g h) ?_ ?_
  ·refine RW.blk ?_
   refine RW.iter (σ := Int × (List TBox)) ey9 (fun s3 => [(0, .lst false 9 (fl (enc_TItem false) x0) x0.length), (2, .ptr 0 0), (3, .ptr 1 0), (14, .lst false 1 (fl (encI false) v2) v2.length), (15, .int .i64 (v2.length : Int)), (16, .int .i64 s3.1)]) (fun s3 => [some ⟨[.nils], 0⟩, some ⟨[.sl 2 0 s3.2.length], 0⟩, some ⟨fl (enc_TBox true) s3.2, 5⟩]) (Gh.ren0 [0, 1, 2] (.cells rfl rfl (.keep .nils .nil) (.cells rfl rfl (.slq rfl rfl .nil) (.same rfl (ek_TBox.fref _ _) .nil))) rfl (.cons rfl (.dat (ek_TItem.rlst)) (.cons rfl (.ptr rfl) (.cons rfl (.ptr rfl) (.cons rfl (.dat (ekI.rlst)) (.cons rfl (.dat .int) (.cons rfl (.dat .int) .nil))))))) (fun s3 B o hS5 hB5 hE5 => ?_)
   unfold S_impl_StateOf_1 at hS5
   refine RW.sreg ?_
   refine rl.gen rfl rfl fun b hb => ?_
   cases b
   ·have h7 := iteBF hS5 hb
    refine rl.done (RW.seq (RW.cond_f rfl (RW.exit (blkA_eq ?_))))
    cases h7
    exact ⟨_, (hE5 _ rfl).symm, (Gh.ren0 [0, 1, 2] (.cells rfl rfl (.keep .nils .nil) (.cells rfl rfl (.slq rfl rfl .nil) (.same rfl (ek_TBox.fref _ _) .nil))) rfl (.cons rfl (.ptr rfl) (.cons rfl (.ptr rfl) .nil)))⟩
   ·have h8 := iteBT hS5 hb
    refine rl.done (RW.seq (RW.cond_t rfl (RW.skip (RW.seq (RW.blk (RW.sreg ?_))))))
    obtain ⟨v5, e5, h9⟩ := bindS h8
    refine rl.op (x_ia_lst (enc := encI) (o := false) rfl rfl rfl e5) ?_
    refine rl.op (x_ld_el (off' := 0) ekI rfl e5 rfl rfl rfl) ?_
    refine rl.run 1 rfl (rl.done (RW.sreg (rl.run 2 rfl ?_)))
    obtain ⟨v6, e6, h10⟩ := bindS h9
    refine rl.call rfl rfl rfl (CallW.val (r' := .tup [.agg (enc_TItem false v6.1), .bool v6.2]) ok_impl_boxThere (law_impl_boxThere e6) (.cons (.lst ek_TItem) (.cons .int .nil)) (FlL.tup (.cons .refl (.cons .refl .nil))) ?_)
    refine rl.run 6 rfl (rl.done (RW.sreg (rl.run 1 rfl (rl.done ?_))))
    refine RW.keep [0, 2, 3, 6, 14, 15, 16, 26] (a' := [(0, .lst false 9 (fl (enc_TItem false) x0) x0.length), (2, .ptr 0 0), (3, .ptr 1 0), (6, .ptr 3 0), (14, .lst false 1 (fl (encI false) v2) v2.length), (15, .int .i64 (v2.length : Int)), (16, .int .i64 s3.1), (26, .bool v6.2)]) (H' := [some ⟨[.nils], 0⟩, some ⟨[.sl 2 0 s3.2.length], 0⟩, some ⟨fl (enc_TBox true) s3.2, 5⟩, some ⟨[.int .i64 v6.1.Seq, .int .i64 v6.1.Rec.Kind, .int .i64 v6.1.Rec.Valid, .int .i64 v6.1.Rec.Uid, .int .i64 v6.1.Rec.Next, .int .i64 v6.1.Rec.Flags, .str v6.1.Rec.User, .str v6.1.Rec.Name, .str v6.1.Rec.Text], 0⟩]) rfl rfl ?_
    cases hb : v6.2
    ·have h11 := iteBF h10 hb
     refine RW.cond_f rfl (RW.skip (RW.reg (rl.run 2 rfl (rl.done ?_))))
     cases h11
     exact hB5 _ rfl _ _ (Gh.ren0 [0, 1, 2] (.cells rfl rfl (.keep .nils .nil) (.cells rfl rfl (.slq rfl rfl .nil) (.same rfl (ek_TBox.fref _ _) .nil))) rfl (.cons rfl (.dat (ek_TItem.rlst)) (.cons rfl (.ptr rfl) (.cons rfl (.ptr rfl) (.cons rfl (.dat (ekI.rlst)) (.cons rfl (.dat .int) (.cons rfl (.dat .int) .nil)))))))
    ·have h12 := iteBT h10 hb
     refine RW.cond_t rfl (RW.drw (rdraw.op rfl rfl (rdraw.op rfl rfl (rdraw.op rfl rfl (rdraw.op rfl rfl ?_)))))
     obtain ⟨v7, e7, h13⟩ := bindS h12
     refine rdraw.ccallB rfl rfl rfl (CallW.own (r' := .agg [.int .i64 v7.Valid, .str v7.User, .str v7.Name, .int .i64 v7.Next, .sl 4 0 v7.Mails.length]) (H' := [some ⟨[.nils], 0⟩, some ⟨[.sl 2 0 s3.2.length], 0⟩, some ⟨fl (enc_TBox true) s3.2, 5⟩, some ⟨[.int .i64 v6.1.Seq, .int .i64 v6.1.Rec.Kind, .int .i64 v6.1.Rec.Valid, .int .i64 v6.1.Rec.Uid, .int .i64 v6.1.Rec.Next, .int .i64 v6.1.Rec.Flags, .str v6.1.Rec.User, .str v6.1.Rec.Name, .str v6.1.Rec.Text], 0⟩, some ⟨fl (enc_TMail true) v7.Mails, 3⟩]) ok_impl_boxState (law_impl_boxState e7) (.cons (.lst ek_TItem) (.cons (DFL.agg (.cons .int (.cons .int (.cons .int (.cons .int (.cons .int (.cons .int (.cons .str (.cons .str (.cons .str .nil)))))))))) .nil)) (ek_TBox.own _) rfl ⟨(.skip rfl (.skip rfl (.here (.rx rfl) (.here (.rx rfl) .nil)))), ?_⟩)
     refine rdraw.chnB rfl rfl (.skip rfl (.skip rfl (.here (.rx rfl) (.here (.rx rfl) .nil)))) ?_
     obtain ⟨v8, e8, h14⟩ := bindS h13
     refine rdraw.chn rfl (x_app rfl rfl (rapp_raw ek_TBox rfl rfl (acont_one rfl rfl rfl) e8)) ?_
     refine rdraw.op rfl rfl ?_
     refine rdraw.chn rfl rfl ?_
     refine rdraw.done ?_
     refine RW.gh (Gh.absorb_rawq (b := 6) (j := 4) (m := 4) rfl rfl rfl (by decide) (by decide) rfl (ek_TMail.flen true _) (ek_TMail.fown _)) ?_
     refine RW.gh (Gh.blk (b := 6) rfl (raw_app (enc := enc_TBox) e8 rfl)) ?_
     refine RW.reg (rl.run 2 rfl (rl.done ?_))
     cases h14
     exact hB5 _ rfl _ _ (Gh.ren0 [0, 1, 6] (.cells rfl rfl (.keep .nils .nil) (.cells rfl rfl (.slq rfl rfl .nil) (.same rfl (ek_TBox.fref _ _) .nil))) rfl (.cons rfl (.dat (ek_TItem.rlst)) (.cons rfl (.ptr rfl) (.cons rfl (.ptr rfl) (.cons rfl (.dat (ekI.rlst)) (.cons rfl (.dat .int) (.cons rfl (.dat .int) .nil)))))))
  ·intro y4 hC
   subst hC
   refine RW.sreg (rl.run 2 rfl (rl.done (RW.ret ?_)))
   cases h6
   exact RRet.mk rfl (OutL.agg (.cons (OutR.ownq ek_TBox rfl rfl) rfl .nil)) (by first | decide | simp)
theorem law_impl_ItemsOf {x0 : TLog} {r : List TItem} (hF : F_impl_ItemsOf x0 = some r) : PCalls Tryz.prog 54 [.agg (enc_TLog false x0)] (.lst true 9 (fl (enc_TItem true) r) r.length) := by
 refine PCalls.of_r k_impl_ItemsOf rfl ?_
 unfold F_impl_ItemsOf at hF
 refine RW.sreg (rl.run 2 rfl (rl.done (RW.sreg (rl.run 2 rfl (rl.done (RW.seq (RW.sreg (rl.run 4 rfl (rl.done ?_)))))))))
 refine RW.gh (Gh.nil_t 3 9 rfl) ?_
 obtain ⟨y5, ey5, h2⟩ := bindS hF
 refine RW.cutq (σ := (List TItem)) (fun y2 => [(3, .sl 0 0 y2.length)]) (fun y2 => [some ⟨fl (enc_TItem true) y2, 9⟩]) (fun y => y5 = y) (fun _ _ _ _ g h => RW.gh g h) ?_ ?_
 ·refine RW.blk ?_
  refine RW.iter (σ := Int × (List TItem)) ey5 (fun s1 => [(3, .sl 0 0 s1.2.length), (8, .lst false 4 (fl (enc_TSeg false) x0.Used) x0.Used.length), (9, .int .i64 (x0.Used.length : Int)), (10, .int .i64 s1.1)]) (fun s1 => [some ⟨fl (enc_TItem true) s1.2, 9⟩]) (Gh.ren0 [1] (.same rfl (ek_TItem.fref _ _) .nil) rfl (.cons rfl (.slq rfl rfl) (.cons rfl (.dat (ek_TSeg.rlst)) (.cons rfl (.dat .int) (.cons rfl (.dat .int) .nil))))) (fun s1 B o hS1 hB1 hE1 => ?_)
  unfold S_impl_ItemsOf_1 at hS1
  refine RW.sreg ?_
  refine rl.gen rfl rfl fun b hb => ?_
  cases b
  ·have h3 := iteBF hS1 hb
   refine rl.done (RW.seq (RW.cond_f rfl (RW.exit (blkA_eq ?_))))
   cases h3
   exact ⟨_, (hE1 _ rfl).symm, (Gh.ren0 [0] (.same rfl (ek_TItem.fref _ _) .nil) rfl (.cons rfl (.slq rfl rfl) .nil))⟩
  ·have h4 := iteBT hS1 hb
   refine rl.done (RW.seq (RW.cond_t rfl (RW.skip (RW.seq (RW.blk (RW.sreg ?_))))))
   obtain ⟨v3, e3, h5⟩ := bindS h4
   refine rl.op (x_ia_lst (enc := enc_TSeg) (o := false) rfl rfl rfl e3) ?_
   refine rl.op (x_ld_ela (off' := 0) (vs := (enc_TSeg false v3)) ek_TSeg rfl e3 rfl rfl rfl) ?_
   refine rl.run 2 rfl (rl.done (RW.reg (rl.run 3 rfl ?_)))
   obtain ⟨v4, e4, h6⟩ := bindS h5
   refine rl.op (x_app rfl rfl (rapp_sl (l := s1.2) (m := v3.Items) (o := true) ek_TItem rfl rfl acont_lst rfl (fk_TItem.fst _ _) e4)) ?_
   refine rl.run 1 rfl (rl.done (RW.reg (rl.run 2 rfl (rl.done ?_))))
   cases h6
   exact hB1 _ rfl _ _ (Gh.ren0 [2] (.same rfl (ek_TItem.fref _ _) .nil) rfl (.cons rfl (.slq rfl rfl) (.cons rfl (.dat (ek_TSeg.rlst)) (.cons rfl (.dat .int) (.cons rfl (.dat .int) .nil)))))
 ·intro y2 hC
  subst hC
  refine RW.sreg (rl.run 2 rfl (rl.done (RW.ret ?_)))
  cases h2
  exact RRet.mk rfl (OutR.ownq ek_TItem rfl rfl) (by first | decide | simp)
theorem law_impl_StateNow {x0 : TStore} {r : TState} (hF : F_impl_StateNow x0 = some r) : PCalls Tryz.prog 20 [.agg (enc_TStore false x0)] (.agg (enc_TState true r)) := by
 refine PCalls.of_r k_impl_StateNow rfl ?_
 unfold F_impl_StateNow at hF
 refine RW.sreg (rl.run 2 rfl (rl.done (RW.sreg (rl.run 2 rfl ?_))))
 obtain ⟨v1, e1, h1⟩ := bindS hF
 refine rl.call rfl rfl rfl (CallW.val (r' := .lst false 9 (fl (enc_TItem false) v1) v1.length) ok_impl_ItemsOf (law_impl_ItemsOf e1) (.cons (DFL.agg (.cons (.lst ekS) (.cons (.lst ek_TWrite) (.cons .int (.cons (.lst ek_TSeg) (.cons .int (.cons .int (.cons .int (.cons .int .nil))))))))) .nil) (ek_TItem.fflag _).lst ?_)
 obtain ⟨v2, e2, h2⟩ := bindS h1
 refine rl.call rfl rfl rfl (CallW.own (r' := .agg [.sl 2 0 v2.Boxes.length]) (H' := [some ⟨[.lst false 1 (fl (encS false) x0.Log.Disk.Sectors) x0.Log.Disk.Sectors.length, .lst false 2 (fl (enc_TWrite false) x0.Log.Disk.Cache) x0.Log.Disk.Cache.length, .int .i64 x0.Log.Segs, .lst false 4 (fl (enc_TSeg false) x0.Log.Used) x0.Log.Used.length, .int .i64 x0.Log.NextGen, .int .i64 x0.Log.NextSeq, .int .i64 x0.Log.Stamp, .int .i64 x0.Log.NextValid, .lst false 1 (fl (encI false) x0.Freed) x0.Freed.length], 0⟩, some ⟨[.nils], 0⟩, some ⟨fl (enc_TBox true) v2.Boxes, 5⟩]) ok_impl_StateOf (law_impl_StateOf e2) (.cons (.lst ek_TItem) .nil) (ek_TState.own _) rfl ?_)
 refine rl.run 1 rfl (rl.done (RW.ret ?_))
 cases h2
 exact RRet.mk rfl (OutL.agg (.cons (OutR.ownq ek_TBox rfl rfl) rfl .nil)) (by first | decide | simp)
theorem law_laws_eqMail {x0 : TMail} {x1 : TMail} {r : Bool} (hF : F_laws_eqMail x0 x1 = some r) : PCalls Tryz.prog 203 [.agg (enc_TMail false x0), .agg (enc_TMail false x1)] (.bool r) := by
 refine PCalls.of_r k_laws_eqMail rfl ?_
 unfold F_laws_eqMail at hF
 refine RW.sreg (rl.run 3 rfl (rl.done (RW.seq (RW.sreg (rl.run 4 rfl ?_)))))
 refine rl.gen rfl rfl fun b hb => ?_
 cases b
 ·have h1 := iteBF hF hb
  refine rl.done (RW.cond_f rfl (RW.skip (RW.seq (RW.sreg (rl.run 4 rfl ?_)))))
  refine rl.gen rfl rfl fun b hb => ?_
  cases b
  ·have h2 := iteBF h1 hb
   refine rl.done ?_
   refine RW.keep [2, 3, 14] (a' := [(2, .ptr 0 0), (3, .ptr 1 0), (14, .bool false)]) (H' := [some ⟨[.int .i64 x0.Uid, .int .i64 x0.Flags, .str x0.Text], 0⟩, some ⟨[.int .i64 x1.Uid, .int .i64 x1.Flags, .str x1.Text], 0⟩]) rfl rfl ?_
   refine RW.cond_f rfl (RW.skip (RW.seq (RW.sreg (rl.run 4 rfl ?_))))
   refine rl.gen rfl rfl fun b hb => ?_
   cases b
   ·have h3 := iteBF h2 hb
    refine rl.done (RW.cond_f rfl (RW.skip (RW.sreg (rl.run 1 rfl (rl.done (RW.ret ?_))))))
    cases h3
    exact RRet.mk rfl .bool (by first | decide | simp)
   ·have h4 := iteBT h2 hb
    refine rl.done (RW.cond_t rfl (RW.sreg (rl.run 1 rfl (rl.done (RW.ret ?_)))))
    cases h4
    exact RRet.mk rfl .bool (by first | decide | simp)
  ·have h5 := iteBT h1 hb
   refine rl.done ?_
   refine RW.keep [2, 3, 14] (a' := [(2, .ptr 0 0), (3, .ptr 1 0), (14, .bool true)]) (H' := [some ⟨[.int .i64 x0.Uid, .int .i64 x0.Flags, .str x0.Text], 0⟩, some ⟨[.int .i64 x1.Uid, .int .i64 x1.Flags, .str x1.Text], 0⟩]) rfl rfl ?_
   refine RW.cond_t rfl (RW.sreg (rl.run 1 rfl (rl.done (RW.ret ?_))))
   cases h5
   exact RRet.mk rfl .bool (by first | decide | simp)
 ·have h6 := iteBT hF hb
  refine rl.done (RW.cond_t rfl (RW.sreg (rl.run 1 rfl (rl.done (RW.ret ?_)))))
  cases h6
  exact RRet.mk rfl .bool (by first | decide | simp)
theorem law_laws_eqMailS {x0 : List TMail} {x1 : List TMail} {r : Bool} (hF : F_laws_eqMailS x0 x1 = some r) : PCalls Tryz.prog 171 [.lst false 3 (fl (enc_TMail false) x0) x0.length, .lst false 3 (fl (enc_TMail false) x1) x1.length] (.bool r) := by
 refine PCalls.of_r k_laws_eqMailS rfl ?_
 unfold F_laws_eqMailS at hF
 refine RW.sreg (rl.run 1 rfl (rl.done (RW.seq (RW.sreg (rl.run 4 rfl ?_)))))
 refine rl.gen rfl rfl fun b hb => ?_
 cases b
 ·have h1 := iteBF hF hb
  refine rl.done (RW.cond_f rfl (RW.skip (RW.seq (RW.sreg (rl.run 1 rfl (rl.done ?_))))))
  obtain ⟨y6, ey6, h3⟩ := bindS h1
  refine RW.cutq (σ := Unit) (fun y2 => []) (fun y2 => []) (fun y => y6 = .inr y) (fun _ _ _ _ g h => RW.gh g h) ?_ ?_
  ·refine RW.blk ?_
   refine RW.iter (σ := Int) ey6 (fun s1 => [(0, .lst false 3 (fl (enc_TMail false) x0) x0.length), (1, .lst false 3 (fl (enc_TMail false) x1) x1.length), (5, .int .i64 s1)]) (fun s1 => []) (Gh.ren0 [] .nil rfl (.cons rfl (.dat (ek_TMail.rlst)) (.cons rfl (.dat (ek_TMail.rlst)) (.cons rfl (.dat .int) .nil)))) (fun s1 B o hS2 hB2 hE2 => ?_)
   unfold S_laws_eqMailS_1 at hS2
   refine RW.seq (RW.sreg (rl.run 3 rfl ?_))
   refine rl.gen rfl rfl fun b hb => ?_
   cases b
   ·have h4 := iteBF hS2 hb
    refine rl.done (RW.cond_f rfl (RW.exit (blkA_eq ?_)))
    cases h4
    exact ⟨_, (hE2 _ rfl).symm, (Gh.ren0 [] .nil rfl .nil)⟩
   ·have h5 := iteBT hS2 hb
    refine rl.done (RW.cond_t rfl (RW.skip (RW.seq (RW.blk (RW.sdrw (rdraw.op rfl rfl (rdraw.op rfl rfl ?_)))))))
    obtain ⟨v3, e3, h6⟩ := bindS h5
    refine rdraw.op rfl (x_ia_lst (enc := enc_TMail) (o := false) rfl rfl rfl e3) ?_
    refine rdraw.op rfl (x_ld_ela (off' := 0) (vs := (enc_TMail false v3)) ek_TMail rfl e3 rfl rfl rfl) ?_
    refine rdraw.op rfl rfl (rdraw.op rfl rfl ?_)
    obtain ⟨v4, e4, h7⟩ := bindS h6
    refine rdraw.op rfl (x_ia_lst (enc := enc_TMail) (o := false) rfl rfl rfl e4) ?_
    refine rdraw.op rfl (x_ld_ela (off' := 0) (vs := (enc_TMail false v4)) ek_TMail rfl e4 rfl rfl rfl) ?_
    obtain ⟨v5, e5, h8⟩ := bindS h7
    refine rdraw.call rfl rfl rfl (CallW.val (r' := .bool v5) ok_laws_eqMail (law_laws_eqMail e5) (.cons (.dat (.agg (ek_TMail.dat false _))) (.cons (.dat (.agg (ek_TMail.dat false _))) .nil)) .refl ⟨rfl, ?_⟩)
    cases hb : v5
    ·have h9 := iteBF h8 hb
     refine rdraw.op rfl rfl (rdraw.done ?_)
     refine RW.keep [0, 1, 5, 26] (a' := [(0, .lst false 3 (fl (enc_TMail false) x0) x0.length), (1, .lst false 3 (fl (enc_TMail false) x1) x1.length), (5, .int .i64 s1), (26, .bool true)]) (H' := []) rfl rfl ?_
     refine RW.cond_t rfl (RW.sreg (rl.run 1 rfl (rl.done (RW.ret ?_))))
     cases h9
     have h10 := elimL h3 (hE2 _ rfl)
     cases h10
     exact RRet.mk rfl .bool (by first | decide | simp)
    ·have h11 := iteBT h8 hb
     refine rdraw.op rfl rfl (rdraw.done ?_)
     refine RW.keep [0, 1, 5, 26] (a' := [(0, .lst false 3 (fl (enc_TMail false) x0) x0.length), (1, .lst false 3 (fl (enc_TMail false) x1) x1.length), (5, .int .i64 s1), (26, .bool false)]) (H' := []) rfl rfl ?_
     refine RW.cond_f rfl (RW.skip (RW.reg (rl.run 3 rfl (rl.done ?_))))
     cases h11
     exact hB2 _ rfl _ _ (Gh.ren0 [] .nil rfl (.cons rfl (.dat (ek_TMail.rlst)) (.cons rfl (.dat (ek_TMail.rlst)) (.cons rfl (.dat .int) .nil))))
  ·intro y2 hC
   have h3 := elimR h3 hC
   refine RW.sreg (rl.run 1 rfl (rl.done (RW.ret ?_)))
   cases h3
   exact RRet.mk rfl .bool (by first | decide | simp)
 ·have h12 := iteBT hF hb
  refine rl.done (RW.cond_t rfl (RW.sreg (rl.run 1 rfl (rl.done (RW.ret ?_)))))
  cases h12
  exact RRet.mk rfl .bool (by first | decide | simp)
theorem law_laws_eqBox {x0 : TBox} {x1 : TBox} {r : Bool} (hF : F_laws_eqBox x0 x1 = some r) : PCalls Tryz.prog 106 [.agg (enc_TBox false x0), .agg (enc_TBox false x1)] (.bool r) := by
 refine PCalls.of_r k_laws_eqBox rfl ?_
 unfold F_laws_eqBox at hF
 refine RW.sreg (rl.run 3 rfl (rl.done (RW.seq (RW.sreg (rl.run 4 rfl ?_)))))
 refine rl.gen rfl rfl fun b hb => ?_
 cases b
 ·have h1 := iteBF hF hb
  refine rl.done (RW.cond_f rfl (RW.skip (RW.seq (RW.sreg (rl.run 4 rfl ?_)))))
  refine rl.gen rfl rfl fun b hb => ?_
  cases b
  ·have h2 := iteBF h1 hb
   refine rl.done ?_
   refine RW.keep [2, 3, 14] (a' := [(2, .ptr 0 0), (3, .ptr 1 0), (14, .bool false)]) (H' := [some ⟨[.int .i64 x0.Valid, .str x0.User, .str x0.Name, .int .i64 x0.Next, .lst false 3 (fl (enc_TMail false) x0.Mails) x0.Mails.length], 0⟩, some ⟨[.int .i64 x1.Valid, .str x1.User, .str x1.Name, .int .i64 x1.Next, .lst false 3 (fl (enc_TMail false) x1.Mails) x1.Mails.length], 0⟩]) rfl rfl ?_
   refine RW.cond_f rfl (RW.skip (RW.seq (RW.sreg (rl.run 4 rfl ?_))))
   refine rl.gen rfl rfl fun b hb => ?_
   cases b
   ·have h3 := iteBF h2 hb
    refine rl.done (RW.cond_f rfl (RW.skip (RW.seq (RW.sreg (rl.run 4 rfl ?_)))))
    refine rl.gen rfl rfl fun b hb => ?_
    cases b
    ·have h4 := iteBF h3 hb
     refine rl.done (RW.cond_f rfl (RW.skip (RW.seq (RW.sreg (rl.run 4 rfl ?_)))))
     obtain ⟨v1, e1, h5⟩ := bindS h4
     refine rl.call rfl rfl rfl (CallW.val (r' := .bool v1) ok_laws_eqMailS (law_laws_eqMailS e1) (.cons (.lst ek_TMail) (.cons (.lst ek_TMail) .nil)) .refl ?_)
     cases hb : v1
     ·have h6 := iteBF h5 hb
      refine rl.run 1 rfl (rl.done ?_)
      refine RW.keep [30] (a' := [(30, .bool true)]) (H' := [some ⟨[.int .i64 x0.Valid, .str x0.User, .str x0.Name, .int .i64 x0.Next, .lst false 3 (fl (enc_TMail false) x0.Mails) x0.Mails.length], 0⟩, some ⟨[.int .i64 x1.Valid, .str x1.User, .str x1.Name, .int .i64 x1.Next, .lst false 3 (fl (enc_TMail false) x1.Mails) x1.Mails.length], 0⟩]) rfl rfl ?_
      refine RW.cond_t rfl (RW.sreg (rl.run 1 rfl (rl.done (RW.ret ?_))))
      cases h6
      exact RRet.mk rfl .bool (by first | decide | simp)
     ·have h7 := iteBT h5 hb
      refine rl.run 1 rfl (rl.done ?_)
      refine RW.keep [30] (a' := [(30, .bool false)]) (H' := [some ⟨[.int .i64 x0.Valid, .str x0.User, .str x0.Name, .int .i64 x0.Next, .lst false 3 (fl (enc_TMail false) x0.Mails) x0.Mails.length], 0⟩, some ⟨[.int .i64 x1.Valid, .str x1.User, .str x1.Name, .int .i64 x1.Next, .lst false 3 (fl (enc_TMail false) x1.Mails) x1.Mails.length], 0⟩]) rfl rfl ?_
      refine RW.cond_f rfl (RW.skip (RW.sreg (rl.run 1 rfl (rl.done (RW.ret ?_)))))
      cases h7
      exact RRet.mk rfl .bool (by first | decide | simp)
    ·have h8 := iteBT h3 hb
     refine rl.done (RW.cond_t rfl (RW.sreg (rl.run 1 rfl (rl.done ?_))))
     refine RW.keep [4] (a' := [(4, .bool false)]) (H' := [some ⟨[.int .i64 x0.Valid, .str x0.User, .str x0.Name, .int .i64 x0.Next, .lst false 3 (fl (enc_TMail false) x0.Mails) x0.Mails.length], 0⟩, some ⟨[.int .i64 x1.Valid, .str x1.User, .str x1.Name, .int .i64 x1.Next, .lst false 3 (fl (enc_TMail false) x1.Mails) x1.Mails.length], 0⟩]) rfl rfl ?_
     refine RW.ret ?_
     cases h8
     exact RRet.mk rfl .bool (by first | decide | simp)
   ·have h9 := iteBT h2 hb
    refine rl.done (RW.cond_t rfl (RW.sreg (rl.run 1 rfl (rl.done (RW.ret ?_)))))
    cases h9
    exact RRet.mk rfl .bool (by first | decide | simp)
  ·have h10 := iteBT h1 hb
   refine rl.done ?_
   refine RW.keep [2, 3, 14] (a' := [(2, .ptr 0 0), (3, .ptr 1 0), (14, .bool true)]) (H' := [some ⟨[.int .i64 x0.Valid, .str x0.User, .str x0.Name, .int .i64 x0.Next, .lst false 3 (fl (enc_TMail false) x0.Mails) x0.Mails.length], 0⟩, some ⟨[.int .i64 x1.Valid, .str x1.User, .str x1.Name, .int .i64 x1.Next, .lst false 3 (fl (enc_TMail false) x1.Mails) x1.Mails.length], 0⟩]) rfl rfl ?_
   refine RW.cond_t rfl (RW.sreg (rl.run 1 rfl (rl.done (RW.ret ?_))))
   cases h10
   exact RRet.mk rfl .bool (by first | decide | simp)
 ·have h11 := iteBT hF hb
  refine rl.done (RW.cond_t rfl (RW.sreg (rl.run 1 rfl (rl.done (RW.ret ?_)))))
  cases h11
  exact RRet.mk rfl .bool (by first | decide | simp)
theorem law_laws_eqBoxS {x0 : List TBox} {x1 : List TBox} {r : Bool} (hF : F_laws_eqBoxS x0 x1 = some r) : PCalls Tryz.prog 55 [.lst false 5 (fl (enc_TBox false) x0) x0.length, .lst false 5 (fl (enc_TBox false) x1) x1.length] (.bool r) := by
 refine PCalls.of_r k_laws_eqBoxS rfl ?_
 unfold F_laws_eqBoxS at hF
 refine RW.sreg (rl.run 1 rfl (rl.done (RW.seq (RW.sreg (rl.run 4 rfl ?_)))))
 refine rl.gen rfl rfl fun b hb => ?_
 cases b
 ·have h1 := iteBF hF hb
  refine rl.done (RW.cond_f rfl (RW.skip (RW.seq (RW.sreg (rl.run 1 rfl (rl.done ?_))))))
  obtain ⟨y6, ey6, h3⟩ := bindS h1
  refine RW.cutq (σ := Unit) (fun y2 => []) (fun y2 => []) (fun y => y6 = .inr y) (fun _ _ _ _ g h => RW.gh g h) ?_ ?_
  ·refine RW.blk ?_
   refine RW.iter (σ := Int) ey6 (fun s1 => [(0, .lst false 5 (fl (enc_TBox false) x0) x0.length), (1, .lst false 5 (fl (enc_TBox false) x1) x1.length), (5, .int .i64 s1)]) (fun s1 => []) (Gh.ren0 [] .nil rfl (.cons rfl (.dat (ek_TBox.rlst)) (.cons rfl (.dat (ek_TBox.rlst)) (.cons rfl (.dat .int) .nil)))) (fun s1 B o hS2 hB2 hE2 => ?_)
   unfold S_laws_eqBoxS_1 at hS2
   refine RW.seq (RW.sreg (rl.run 3 rfl ?_))
   refine rl.gen rfl rfl fun b hb => ?_
   cases b
   ·have h4 := iteBF hS2 hb
    refine rl.done (RW.cond_f rfl (RW.exit (blkA_eq ?_)))
    cases h4
    exact ⟨_, (hE2 _ rfl).symm, (Gh.ren0 [] .nil rfl .nil)⟩
   ·have h5 := iteBT hS2 hb
    refine rl.done (RW.cond_t rfl (RW.skip (RW.seq (RW.blk (RW.sdrw (rdraw.op rfl rfl (rdraw.op rfl rfl ?_)))))))
    obtain ⟨v3, e3, h6⟩ := bindS h5
    refine rdraw.op rfl (x_ia_lst (enc := enc_TBox) (o := false) rfl rfl rfl e3) ?_
    refine rdraw.op rfl (x_ld_ela (off' := 0) (vs := (enc_TBox false v3)) ek_TBox rfl e3 rfl rfl rfl) ?_
    refine rdraw.op rfl rfl (rdraw.op rfl rfl ?_)
    obtain ⟨v4, e4, h7⟩ := bindS h6
    refine rdraw.op rfl (x_ia_lst (enc := enc_TBox) (o := false) rfl rfl rfl e4) ?_
    refine rdraw.op rfl (x_ld_ela (off' := 0) (vs := (enc_TBox false v4)) ek_TBox rfl e4 rfl rfl rfl) ?_
    obtain ⟨v5, e5, h8⟩ := bindS h7
    refine rdraw.call rfl rfl rfl (CallW.val (r' := .bool v5) ok_laws_eqBox (law_laws_eqBox e5) (.cons (.dat (.agg (ek_TBox.dat false _))) (.cons (.dat (.agg (ek_TBox.dat false _))) .nil)) .refl ⟨rfl, ?_⟩)
    cases hb : v5
    ·have h9 := iteBF h8 hb
     refine rdraw.op rfl rfl (rdraw.done ?_)
     refine RW.keep [0, 1, 5, 26] (a' := [(0, .lst false 5 (fl (enc_TBox false) x0) x0.length), (1, .lst false 5 (fl (enc_TBox false) x1) x1.length), (5, .int .i64 s1), (26, .bool true)]) (H' := []) rfl rfl ?_
     refine RW.cond_t rfl (RW.sreg (rl.run 1 rfl (rl.done (RW.ret ?_))))
     cases h9
     have h10 := elimL h3 (hE2 _ rfl)
     cases h10
     exact RRet.mk rfl .bool (by first | decide | simp)
    ·have h11 := iteBT h8 hb
     refine rdraw.op rfl rfl (rdraw.done ?_)
     refine RW.keep [0, 1, 5, 26] (a' := [(0, .lst false 5 (fl (enc_TBox false) x0) x0.length), (1, .lst false 5 (fl (enc_TBox false) x1) x1.length), (5, .int .i64 s1), (26, .bool false)]) (H' := []) rfl rfl ?_
     refine RW.cond_f rfl (RW.skip (RW.reg (rl.run 3 rfl (rl.done ?_))))
     cases h11
     exact hB2 _ rfl _ _ (Gh.ren0 [] .nil rfl (.cons rfl (.dat (ek_TBox.rlst)) (.cons rfl (.dat (ek_TBox.rlst)) (.cons rfl (.dat .int) .nil))))
  ·intro y2 hC
   have h3 := elimR h3 hC
   refine RW.sreg (rl.run 1 rfl (rl.done (RW.ret ?_)))
   cases h3
   exact RRet.mk rfl .bool (by first | decide | simp)
 ·have h12 := iteBT hF hb
  refine rl.done (RW.cond_t rfl (RW.sreg (rl.run 1 rfl (rl.done (RW.ret ?_)))))
  cases h12
  exact RRet.mk rfl .bool (by first | decide | simp)
theorem law_laws_eqState {x0 : TState} {x1 : TState} {r : Bool} (hF : F_laws_eqState x0 x1 = some r) : PCalls Tryz.prog 21 [.agg (enc_TState false x0), .agg (enc_TState false x1)] (.bool r) := by
 refine PCalls.of_r k_laws_eqState rfl ?_
 unfold F_laws_eqState at hF
 refine RW.sreg (rl.run 3 rfl (rl.done (RW.seq (RW.sreg (rl.run 4 rfl ?_)))))
 obtain ⟨v1, e1, h1⟩ := bindS hF
 refine rl.call rfl rfl rfl (CallW.val (r' := .bool v1) ok_laws_eqBoxS (law_laws_eqBoxS e1) (.cons (.lst ek_TBox) (.cons (.lst ek_TBox) .nil)) .refl ?_)
 cases hb : v1
 ·have h2 := iteBF h1 hb
  refine rl.run 1 rfl (rl.done (RW.cond_t rfl (RW.sreg (rl.run 1 rfl (rl.done (RW.ret ?_))))))
  cases h2
  exact RRet.mk rfl .bool (by first | decide | simp)
 ·have h3 := iteBT h1 hb
  refine rl.run 1 rfl (rl.done (RW.cond_f rfl (RW.skip (RW.sreg (rl.run 1 rfl (rl.done (RW.ret ?_)))))))
  cases h3
  exact RRet.mk rfl .bool (by first | decide | simp)
theorem law_laws_markMailS_w {x0 : List TMail} {x1 : Int} {r : Int × (List TMail)} (hF : F_laws_markMailS_w x0 x1 = some r) : ACalls Tryz.prog 0 108 [.sl 0 0 x0.length, .int .i64 x1] [some ⟨fl (enc_TMail true) x0, 3⟩] (.int .i64 r.1) [some ⟨fl (enc_TMail true) r.2, 3⟩] := by
 refine ACalls.of_s k_laws_markMailS rfl ?_
 unfold F_laws_markMailS_w at hF
 refine RW.sreg (rl.run 1 rfl (rl.done (RW.seq (RW.sreg (rl.run 1 rfl (rl.done ?_))))))
 obtain ⟨y10, ey10, h2⟩ := bindS hF
 refine RW.cutq (σ := Int × (List TMail)) (fun y2 => [(1, .int .i64 y2.1)]) (fun y2 => [some ⟨fl (enc_TMail true) y2.2, 3⟩]) (fun y => y10 = y) (fun _ _ _ _ g h => RW.gh g h) ?_ ?_
 ·refine RW.blk ?_
  refine RW.iter (σ := Int × Int × (List TMail)) ey10 (fun s1 => [(0, .sl 0 0 s1.2.2.length), (1, .int .i64 s1.1), (5, .int .i64 s1.2.1)]) (fun s1 => [some ⟨fl (enc_TMail true) s1.2.2, 3⟩]) (Gh.renN [0] (.same rfl (ek_TMail.fref _ _) .nil) rfl rfl rfl (.cons rfl (.slq rfl rfl) (.cons rfl (.dat .int) (.cons rfl (.dat .int) .nil)))) (fun s1 B o hS1 hB1 hE1 => ?_)
  unfold S_laws_markMailS_w_1 at hS1
  refine RW.seq (RW.sreg (rl.run 3 rfl ?_))
  refine rl.gen rfl rfl fun b hb => ?_
  cases b
  ·have h3 := iteBF hS1 hb
   refine rl.done (RW.cond_f rfl (RW.exit (blkA_eq ?_)))
   cases h3
   exact ⟨_, (hE1 _ rfl).symm, (Gh.renN [0] (.same rfl (ek_TMail.fref _ _) .nil) rfl rfl rfl (.cons rfl (.dat .int) .nil))⟩
  ·have h4 := iteBT hS1 hb
   refine rl.done (RW.cond_t rfl (RW.skip (RW.seq (RW.blk (RW.sreg (rl.run 3 rfl ?_))))))
   obtain ⟨v3, e3, h5⟩ := bindS h4
   refine rl.op (x_ia_sl rfl rfl rfl rfl e3) ?_
   refine rl.run 1 rfl ?_
   obtain ⟨v4, e4, h6⟩ := bindS h5
   refine rl.op0 (x_st_sl' (off' := 0) (o := true) (e' := ({ Uid := s1.1, Flags := v3.Flags, Text := v3.Text } : TMail)) ek_TMail e3 rfl rfl rfl rfl rfl rfl rfl rfl rfl e4) ?_
   refine rl.done (RW.sreg (rl.run 3 rfl (rl.done ?_)))
   refine RW.keep [0, 1, 5] (a' := [(0, .sl 0 0 s1.2.2.length), (1, .int .i64 (w64 (s1.1 + 1))), (5, .int .i64 s1.2.1)]) (H' := [some ⟨fl (enc_TMail true) v4, 3⟩]) rfl rfl ?_
   refine RW.sreg (rl.run 3 rfl ?_)
   obtain ⟨v5, e5, h7⟩ := bindS h6
   refine rl.op (x_ia_sl rfl rfl rfl (set'_len e4) e5) ?_
   refine rl.run 1 rfl ?_
   obtain ⟨v6, e6, h8⟩ := bindS h7
   refine rl.op0 (x_st_sl' (off' := 1) (o := true) (e' := ({ Uid := v5.Uid, Flags := w64 (s1.1 + 1), Text := v5.Text } : TMail)) ek_TMail e5 rfl rfl rfl rfl rfl rfl rfl rfl rfl e6) ?_
   refine rl.done (RW.sreg (rl.run 3 rfl (rl.done (RW.sreg (rl.run 3 rfl ?_)))))
   obtain ⟨v7, e7, h9⟩ := bindS h8
   refine rl.call rfl rfl rfl (CallW.val (r' := .str v7) ok_laws_markText (law_laws_markText e7) (.cons .int .nil) .refl ?_)
   obtain ⟨v8, e8, h10⟩ := bindS h9
   refine rl.op (x_ia_sl rfl rfl rfl ((set'_len e4).trans (set'_len e6)) e8) ?_
   refine rl.run 1 rfl ?_
   obtain ⟨v9, e9, h11⟩ := bindS h10
   refine rl.op0 (x_st_sl' (off' := 2) (o := true) (e' := ({ Uid := v8.Uid, Flags := v8.Flags, Text := v7 } : TMail)) ek_TMail e8 rfl rfl rfl rfl rfl rfl rfl rfl rfl e9) ?_
   refine rl.done ?_
   refine RW.keep [0, 1, 5] (a' := [(0, .sl 0 0 s1.2.2.length), (1, .int .i64 (w64 ((w64 (s1.1 + 1)) + 1))), (5, .int .i64 s1.2.1)]) (H' := [some ⟨fl (enc_TMail true) v9, 3⟩]) rfl rfl ?_
   refine RW.reg (rl.run 3 rfl (rl.done (RW.reg (rl.run 3 rfl (rl.done ?_)))))
   cases h11
   exact hB1 _ rfl _ _ (Gh.renN [0] (.same rfl (ek_TMail.fref _ _) .nil) rfl rfl rfl (.cons rfl (.slq rfl (((set'_len e4).trans (set'_len e6)).trans (set'_len e9))) (.cons rfl (.dat .int) (.cons rfl (.dat .int) .nil))))
 ·intro y2 hC
  subst hC
  refine RW.sreg (rl.run 2 rfl (rl.done (RW.ret ?_)))
  cases h2
  exact RRetS.mk rfl .int (Gh.renN [0] (.same rfl (ek_TMail.fref _ _) .nil) rfl rfl rfl .nil)
theorem law_laws_markBoxS_w {x0 : List TBox} {x1 : Int} {r : Int × (List TBox)} (hF : F_laws_markBoxS_w x0 x1 = some r) : ACalls Tryz.prog 0 56 [.sl 0 0 x0.length, .int .i64 x1] [some ⟨fl (enc_TBox true) x0, 5⟩] (.int .i64 r.1) [some ⟨fl (enc_TBox true) r.2, 5⟩] := by
 refine ACalls.of_s k_laws_markBoxS rfl ?_
 unfold F_laws_markBoxS_w at hF
 refine RW.sreg (rl.run 1 rfl (rl.done (RW.seq (RW.sreg (rl.run 1 rfl (rl.done ?_))))))
 obtain ⟨y16, ey16, h2⟩ := bindS hF
 refine RW.cutq (σ := Int × (List TBox)) (fun y2 => [(1, .int .i64 y2.1)]) (fun y2 => [some ⟨fl (enc_TBox true) y2.2, 5⟩]) (fun y => y16 = y) (fun _ _ _ _ g h => RW.gh g h) ?_ ?_
 ·refine RW.blk ?_
  refine RW.iter (σ := Int × Int × (List TBox)) ey16 (fun s1 => [(0, .sl 0 0 s1.2.2.length), (1, .int .i64 s1.1), (5, .int .i64 s1.2.1)]) (fun s1 => [some ⟨fl (enc_TBox true) s1.2.2, 5⟩]) (Gh.renN [0] (.same rfl (ek_TBox.fref _ _) .nil) rfl rfl rfl (.cons rfl (.slq rfl rfl) (.cons rfl (.dat .int) (.cons rfl (.dat .int) .nil)))) (fun s1 B o hS1 hB1 hE1 => ?_)
  unfold S_laws_markBoxS_w_1 at hS1
  refine RW.seq (RW.sreg (rl.run 3 rfl ?_))
  refine rl.gen rfl rfl fun b hb => ?_
  cases b
  ·have h3 := iteBF hS1 hb
   refine rl.done (RW.cond_f rfl (RW.exit (blkA_eq ?_)))
   cases h3
   exact ⟨_, (hE1 _ rfl).symm, (Gh.renN [0] (.same rfl (ek_TBox.fref _ _) .nil) rfl rfl rfl (.cons rfl (.dat .int) .nil))⟩
  ·have h4 := iteBT hS1 hb
   refine rl.done (RW.cond_t rfl (RW.skip (RW.seq (RW.blk (RW.sreg (rl.run 3 rfl ?_))))))
   obtain ⟨v3, e3, h5⟩ := bindS h4
   refine rl.op (x_ia_sl rfl rfl rfl rfl e3) ?_
   refine rl.run 1 rfl ?_
   obtain ⟨v4, e4, h6⟩ := bindS h5
   refine rl.op0 (x_st_sl' (off' := 0) (o := true) (e' := ({ Valid := s1.1, User := v3.User, Name := v3.Name, Next := v3.Next, Mails := v3.Mails } : TBox)) ek_TBox e3 rfl rfl rfl rfl rfl rfl rfl rfl rfl e4) ?_
   refine rl.done (RW.sreg (rl.run 3 rfl (rl.done ?_)))
   refine RW.keep [0, 1, 5] (a' := [(0, .sl 0 0 s1.2.2.length), (1, .int .i64 (w64 (s1.1 + 1))), (5, .int .i64 s1.2.1)]) (H' := [some ⟨fl (enc_TBox true) v4, 5⟩]) rfl rfl ?_
   refine RW.sreg (rl.run 3 rfl ?_)
   obtain ⟨v5, e5, h7⟩ := bindS h6
   refine rl.call rfl rfl rfl (CallW.val (r' := .str v5) ok_laws_markText (law_laws_markText e5) (.cons .int .nil) .refl ?_)
   obtain ⟨v6, e6, h8⟩ := bindS h7
   refine rl.op (x_ia_sl rfl rfl rfl (set'_len e4) e6) ?_
   refine rl.run 1 rfl ?_
   obtain ⟨v7, e7, h9⟩ := bindS h8
   refine rl.op0 (x_st_sl' (off' := 1) (o := true) (e' := ({ Valid := v6.Valid, User := v5, Name := v6.Name, Next := v6.Next, Mails := v6.Mails } : TBox)) ek_TBox e6 rfl rfl rfl rfl rfl rfl rfl rfl rfl e7) ?_
   refine rl.done (RW.sreg (rl.run 3 rfl (rl.done (RW.sreg (rl.run 3 rfl ?_)))))
   obtain ⟨v8, e8, h10⟩ := bindS h9
   refine rl.call rfl rfl rfl (CallW.val (r' := .str v8) ok_laws_markText (law_laws_markText e8) (.cons .int .nil) .refl ?_)
   obtain ⟨v9, e9, h11⟩ := bindS h10
   refine rl.op (x_ia_sl rfl rfl rfl ((set'_len e4).trans (set'_len e7)) e9) ?_
   refine rl.run 1 rfl ?_
   obtain ⟨v10, e10, h12⟩ := bindS h11
   refine rl.op0 (x_st_sl' (off' := 2) (o := true) (e' := ({ Valid := v9.Valid, User := v9.User, Name := v8, Next := v9.Next, Mails := v9.Mails } : TBox)) ek_TBox e9 rfl rfl rfl rfl rfl rfl rfl rfl rfl e10) ?_
   refine rl.done ?_
   refine RW.keep [0, 1, 5] (a' := [(0, .sl 0 0 s1.2.2.length), (1, .int .i64 (w64 ((w64 (s1.1 + 1)) + 1))), (5, .int .i64 s1.2.1)]) (H' := [some ⟨fl (enc_TBox true) v10, 5⟩]) rfl rfl ?_
   refine RW.sreg (rl.run 3 rfl (rl.done (RW.sreg (rl.run 3 rfl ?_))))
   obtain ⟨v11, e11, h13⟩ := bindS h12
   refine rl.op (x_ia_sl rfl rfl rfl (((set'_len e4).trans (set'_len e7)).trans (set'_len e10)) e11) ?_
   refine rl.run 1 rfl ?_
   obtain ⟨v12, e12, h14⟩ := bindS h13
   refine rl.op0 (x_st_sl' (off' := 3) (o := true) (e' := ({ Valid := v11.Valid, User := v11.User, Name := v11.Name, Next := w64 ((w64 ((w64 (s1.1 + 1)) + 1)) + 1), Mails := v11.Mails } : TBox)) ek_TBox e11 rfl rfl rfl rfl rfl rfl rfl rfl rfl e12) ?_
   refine rl.done (RW.sreg (rl.run 3 rfl (rl.done ?_)))
   obtain ⟨v13, e13, h15⟩ := bindS h14
   refine RW.gh (Gh.blk (b := 0) rfl (raw_at ek_TBox e13)) ?_
   refine RW.gh (Gh.expose_raw (b := 0) (j := 4) rfl rfl (by decide) (ek_TMail.fown _)) ?_
   refine RW.reg (rl.run 2 rfl ?_)
   refine rl.op (x_ia_sl rfl rfl rfl ((((set'_len e4).trans (set'_len e7)).trans (set'_len e10)).trans (set'_len e12)) e13) ?_
   refine rl.run 1 rfl ?_
   refine rl.op (x_ld_raw (off' := 4) ek_TBox rfl rfl e13 rfl rfl) ?_
   refine rl.run 1 rfl ?_
   obtain ⟨v14, e14, h16⟩ := bindS h15
   refine rl.call rfl rfl rfl (CallW.embW (r0 := .int .i64 v14.1) (H' := [some ⟨fl (enc_TBox true) (v12.take s1.2.1.toNat) ++ ([.int .i64 v13.Valid, .str v13.User, .str v13.Name, .int .i64 v13.Next, .sl 1 0 v13.Mails.length] ++ fl (enc_TBox true) (v12.drop (s1.2.1.toNat + 1))), 5⟩, some ⟨fl (enc_TMail true) v14.2, 3⟩]) [⟨fl (enc_TMail true) v13.Mails, 3⟩] [⟨fl (enc_TMail true) v14.2, 3⟩] [1] ok_laws_markMailS (law_laws_markMailS_w (guardO_s e14)) (.cons rfl (ek_TMail.fref _ _) (ek_TMail.fown _) .nil) rfl (.cons (.slq rfl rfl) (.cons (.dat .int) .nil)) .int rfl rfl ?_)
   refine rl.run 1 rfl (rl.done ?_)
   refine RW.gh (Gh.absorb_rawq (b := 0) (j := 4) (m := 1) rfl rfl rfl (by decide) (by decide) (guardO_p (p := fun r : Int × (List TMail) => v13.Mails.length = r.2.length) e14) (ek_TMail.flen true _) (ek_TMail.fown _)) ?_
   obtain ⟨v15, e15, h17⟩ := bindS h16
   refine RW.gh (Gh.blk (b := 0) rfl (raw_set ek_TBox e13 e15 rfl)) ?_
   refine RW.reg (rl.run 3 rfl (rl.done ?_))
   cases h17
   exact hB1 _ rfl _ _ (Gh.renN [0] (.same rfl (ek_TBox.fref _ _) .nil) rfl rfl rfl (.cons rfl (.slq rfl (((((set'_len e4).trans (set'_len e7)).trans (set'_len e10)).trans (set'_len e12)).trans (set'_len e15))) (.cons rfl (.dat .int) (.cons rfl (.dat .int) .nil))))
 ·intro y2 hC
  subst hC
  refine RW.sreg (rl.run 2 rfl (rl.done (RW.ret ?_)))
  cases h2
  exact RRetS.mk rfl .int (Gh.renN [0] (.same rfl (ek_TBox.fref _ _) .nil) rfl rfl rfl .nil)
theorem law_laws_markState_w {x0 : List TBox} {x1 : Int} {r : Int × (List TBox)} (hF : F_laws_markState_w x0 x1 = some r) : ACalls Tryz.prog 0 22 [.agg [.sl 0 0 x0.length], .int .i64 x1] [some ⟨fl (enc_TBox true) x0, 5⟩] (.int .i64 r.1) [some ⟨fl (enc_TBox true) r.2, 5⟩] := by
 refine ACalls.of_s k_laws_markState rfl ?_
 unfold F_laws_markState_w at hF
 refine RW.sreg (rl.run 2 rfl (rl.done (RW.sreg (rl.run 3 rfl ?_))))
 obtain ⟨v1, e1, h1⟩ := bindS hF
 refine rl.call rfl rfl rfl (CallW.embW (r0 := .int .i64 v1.1) (H' := [some ⟨fl (enc_TBox true) v1.2, 5⟩, some ⟨[.sl 0 0 x0.length], 0⟩]) [⟨fl (enc_TBox true) x0, 5⟩] [⟨fl (enc_TBox true) v1.2, 5⟩] [0] ok_laws_markBoxS (law_laws_markBoxS_w (guardO_s e1)) (.cons rfl (ek_TBox.fref _ _) (ek_TBox.fown _) .nil) rfl (.cons (.slq rfl rfl) (.cons (.dat .int) .nil)) .int rfl rfl ?_)
 refine rl.run 1 rfl (rl.done (RW.sreg (rl.run 2 rfl (rl.done (RW.ret ?_)))))
 cases h1
 exact RRetS.mk rfl .int (Gh.renN [0] (.same rfl (ek_TBox.fref _ _) .nil) rfl rfl rfl .nil)
end Go.Proofs.YtcehlicmghnghaaGreat.V
