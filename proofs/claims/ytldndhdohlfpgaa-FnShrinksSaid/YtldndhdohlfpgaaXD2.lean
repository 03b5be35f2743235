/- What a call comes to. -/
import Derived.Test.YtldndhdohlfpgaaXD1
namespace Go.Proofs.Ytldndhdohlfpgaa.V
open Go Go.Proofs Go.RowKit
set_option maxRecDepth 100000
set_option maxHeartbeats 2000000 in
theorem law_spec_NextsOf {x0 : List TItem} {x1 : List Bool} {r : List TRec} (hF : F_spec_NextsOf x0 x1 = some r) : PCalls Try.prog 44 [L_TItem x0, L_O x1] (.lst true 8 (fl (enc_TRec true) r) r.length) := by
 refine PCalls.of_r k_spec_NextsOf rfl ?_
 unfold F_spec_NextsOf at hF
 refine RW.sreg (rl.run 1 rfl (rl.done (RW.sreg (rl.run 2 rfl (rl.done (RW.sreg (rl.run 1 rfl ?_)))))))
 obtain ⟨v1, e1, h1⟩ := bindS hF
 refine rl.call rfl rfl rfl (CallW.val (r' := .agg (enc_TState false v1)) ok_spec_StateOf (law_spec_StateOf e1) (.cons (.lst ek_TItem) .nil) (ek_TState.flag _).agg ?_)
 refine rl.run 2 rfl (rl.done (RW.sreg (rl.run 2 rfl ?_)))
 obtain ⟨v2, e2, h2⟩ := bindS h1
 refine rl.call rfl rfl rfl (CallW.val (r' := L_TItem v2) ok_spec_Without (law_spec_Without e2) (.cons (.lst ek_TItem) (.cons (.lst ekO) .nil)) (ek_TItem.fflag _).lst ?_)
 obtain ⟨v3, e3, h3⟩ := bindS h2
 refine rl.call rfl rfl rfl (CallW.val (r' := .agg (enc_TState false v3)) ok_spec_StateOf (law_spec_StateOf e3) (.cons (.lst ek_TItem) .nil) (ek_TState.flag _).agg ?_)
 refine rl.run 2 rfl (rl.done (RW.seq (RW.sreg (rl.run 1 rfl (rl.done ?_)))))
 refine RW.gh (Gh.nil_t 5 8 rfl) ?_
 obtain ⟨y13, ey13, h5⟩ := bindS h3
 refine RW.cutq (σ := (List TRec)) (fun y5 => [(5, .sl 0 0 y5.length)]) (fun y5 => [some ⟨fl (enc_TRec true) y5, 8⟩]) (fun y => y13 = y) (fun _ _ _ _ g h => RW.gh g h) ?_ ?_
 ·refine RW.blk ?_
  refine RW.iter (σ := Int × (List TRec)) ey13 (fun s4 => [(5, .sl 0 0 s4.2.length), (6, .ptr 1 0), (7, .ptr 2 0), (8, .j s4.1)]) (fun s4 => [some ⟨fl (enc_TRec true) s4.2, 8⟩, some ⟨[L_TBox v1.Boxes], 0⟩, some ⟨[L_TBox v3.Boxes], 0⟩]) (Gh.ren0 [2, 0, 1] (.same rfl (ek_TRec.fref _ _) (.cells rfl rfl (.keep (ek_TBox.rlst) .nil) (.cells rfl rfl (.keep (ek_TBox.rlst) .nil) .nil))) rfl (.cons rfl (.slq rfl rfl) (.cons rfl (.ptr rfl) (.cons rfl (.ptr rfl) (.cons rfl (.dat .int) .nil))))) (fun s4 B o hS4 hB4 hE4 => ?_)
  unfold S_spec_NextsOf_1 at hS4
  refine RW.seq (RW.sreg (rl.run 4 rfl ?_))
  refine rl.gen rfl rfl fun b hb => ?_
  cases b
  ·have h6 := iteBF hS4 hb
   refine rl.done (RW.cond_f rfl (RW.exit (blkA_eq ?_)))
   cases h6
   exact ⟨_, (hE4 _ rfl).symm, (Gh.ren0 [0] (.same rfl (ek_TRec.fref _ _) .nil) rfl (.cons rfl (.slq rfl rfl) .nil))⟩
  ·have h7 := iteBT hS4 hb
   refine rl.done (RW.cond_t rfl (RW.skip (RW.seq (RW.blk (RW.sreg (rl.run 3 rfl ?_))))))
   obtain ⟨v6, e6, h8⟩ := bindS h7
   refine rl.op (x_ia_lst (enc := enc_TBox) (o := false) rfl rfl rfl e6) ?_
   refine rl.op (x_ld_ela (off' := 0) (vs := (enc_TBox false v6)) ek_TBox rfl e6 rfl rfl rfl) ?_
   refine rl.run 2 rfl (rl.done (RW.sreg (rl.run 1 rfl (rl.done (RW.seq (RW.sreg (rl.run 1 rfl (rl.done ?_))))))))
   obtain ⟨y11, ey11, h10⟩ := bindS h8
   refine RW.cutq (σ := Bool) (fun y8 => [(5, .sl 0 0 s4.2.length), (6, .ptr 1 0), (7, .ptr 2 0), (8, .j s4.1), (9, .ptr 3 0), (10, .bool y8)]) (fun y8 => [some ⟨fl (enc_TRec true) s4.2, 8⟩, some ⟨[L_TBox v1.Boxes], 0⟩, some ⟨[L_TBox v3.Boxes], 0⟩, some ⟨[.j v6.Valid, .str v6.User, .str v6.Name, .j v6.Next, L_TMail v6.Mails], 0⟩]) (fun y => y11 = y) (fun _ _ _ _ g h => RW.gh g h) ?_ ?_
   ·refine RW.blk ?_
    refine RW.iter (σ := Bool × Int) ey11 (fun s7 => [(5, .sl 0 0 s4.2.length), (6, .ptr 1 0), (7, .ptr 2 0), (8, .j s4.1), (9, .ptr 3 0), (10, .bool s7.1), (11, .j s7.2)]) (fun s7 => [some ⟨fl (enc_TRec true) s4.2, 8⟩, some ⟨[L_TBox v1.Boxes], 0⟩, some ⟨[L_TBox v3.Boxes], 0⟩, some ⟨[.j v6.Valid, .str v6.User, .str v6.Name, .j v6.Next, L_TMail v6.Mails], 0⟩]) (Gh.ren0 [0, 1, 2, 3] (.same rfl (ek_TRec.fref _ _) (.cells rfl rfl (.keep (ek_TBox.rlst) .nil) (.cells rfl rfl (.keep (ek_TBox.rlst) .nil) (.cells rfl rfl (.keep .int (.keep .str (.keep .str (.keep .int (.keep (ek_TMail.rlst) .nil))))) .nil)))) rfl (.cons rfl (.slq rfl rfl) (.cons rfl (.ptr rfl) (.cons rfl (.ptr rfl) (.cons rfl (.dat .int) (.cons rfl (.ptr rfl) (.cons rfl (.dat .bool) (.cons rfl (.dat .int) .nil)))))))) (fun s7 B o hS9 hB9 hE9 => ?_)
    unfold S_spec_NextsOf_2 at hS9
    refine RW.seq (RW.sreg (rl.run 4 rfl ?_))
    refine rl.gen rfl rfl fun b hb => ?_
    cases b
    ·have h11 := iteBF hS9 hb
     refine rl.done (RW.cond_f rfl (RW.exit (blkA_eq ?_)))
     cases h11
     exact ⟨_, (hE9 _ rfl).symm, (Gh.ren0 [0, 1, 2, 3] (.same rfl (ek_TRec.fref _ _) (.cells rfl rfl (.keep (ek_TBox.rlst) .nil) (.cells rfl rfl (.keep (ek_TBox.rlst) .nil) (.cells rfl rfl (.keep .int (.keep .str (.keep .str (.keep .int (.keep (ek_TMail.rlst) .nil))))) .nil)))) rfl (.cons rfl (.slq rfl rfl) (.cons rfl (.ptr rfl) (.cons rfl (.ptr rfl) (.cons rfl (.dat .int) (.cons rfl (.ptr rfl) (.cons rfl (.dat .bool) .nil)))))))⟩
    ·have h12 := iteBT hS9 hb
     refine rl.done (RW.cond_t rfl (RW.skip (RW.seq (RW.blk (RW.drw (rdraw.op rfl rfl (rdraw.op rfl rfl ?_)))))))
     cases hb : s7.1
     ·have h13 := iteBF h12 hb
      refine rdraw.op rfl rfl (rdraw.op rfl rfl (rdraw.op rfl rfl ?_))
      obtain ⟨v9, e9, h14⟩ := bindS h13
      refine rdraw.op rfl (x_ia_lst (enc := enc_TBox) (o := false) rfl rfl rfl e9) ?_
      refine rdraw.op rfl rfl ?_
      refine rdraw.op rfl (x_ld_el (off' := 0) ek_TBox rfl e9 rfl rfl rfl) ?_
      refine rdraw.op rfl rfl (rdraw.op rfl rfl ?_)
      refine rdraw.gen rfl rfl fun b hb => ?_
      cases b
      ·have h15 := iteBF h14 hb
       refine rdraw.op rfl rfl (rdraw.off rfl (rdraw.off rfl (rdraw.off rfl (rdraw.off rfl (rdraw.off rfl (rdraw.off rfl (rdraw.off rfl (rdraw.off rfl (rdraw.off rfl (rdraw.op rfl rfl (rdraw.op rfl rfl ?_)))))))))))
       refine rdraw.op rfl rfl (rdraw.done (RW.reg (rl.run 3 rfl (rl.done ?_))))
       cases h15
       exact hB9 _ rfl _ _ (Gh.ren0 [0, 1, 2, 3] (.same rfl (ek_TRec.fref _ _) (.cells rfl rfl (.keep (ek_TBox.rlst) .nil) (.cells rfl rfl (.keep (ek_TBox.rlst) .nil) (.cells rfl rfl (.keep .int (.keep .str (.keep .str (.keep .int (.keep (ek_TMail.rlst) .nil))))) .nil)))) rfl (.cons rfl (.slq rfl rfl) (.cons rfl (.ptr rfl) (.cons rfl (.ptr rfl) (.cons rfl (.dat .int) (.cons rfl (.ptr rfl) (.cons rfl (.dat .bool) (.cons rfl (.dat .int) .nil))))))))
      ·have h16 := iteBT h14 hb
       refine rdraw.op rfl rfl (rdraw.op rfl rfl (rdraw.op rfl rfl (rdraw.op rfl rfl ?_)))
       obtain ⟨v10, e10, h17⟩ := bindS h16
       refine rdraw.op rfl (x_ia_lst (enc := enc_TBox) (o := false) rfl rfl rfl e10) ?_
       refine rdraw.op rfl rfl ?_
       refine rdraw.op rfl (x_ld_el (off' := 3) ek_TBox rfl e10 rfl rfl rfl) ?_
       refine rdraw.op rfl rfl (rdraw.op rfl rfl ?_)
       refine rdraw.gen rfl rfl fun b hb => ?_
       cases b
       ·have h18 := iteBF h17 hb
        refine rdraw.op rfl rfl (rdraw.op rfl rfl (rdraw.op rfl rfl (rdraw.done (RW.reg (rl.run 3 rfl (rl.done ?_))))))
        cases h18
        exact hB9 _ rfl _ _ (Gh.ren0 [0, 1, 2, 3] (.same rfl (ek_TRec.fref _ _) (.cells rfl rfl (.keep (ek_TBox.rlst) .nil) (.cells rfl rfl (.keep (ek_TBox.rlst) .nil) (.cells rfl rfl (.keep .int (.keep .str (.keep .str (.keep .int (.keep (ek_TMail.rlst) .nil))))) .nil)))) rfl (.cons rfl (.slq rfl rfl) (.cons rfl (.ptr rfl) (.cons rfl (.ptr rfl) (.cons rfl (.dat .int) (.cons rfl (.ptr rfl) (.cons rfl (.dat .bool) (.cons rfl (.dat .int) .nil))))))))
       ·have h19 := iteBT h17 hb
        refine rdraw.op rfl rfl (rdraw.op rfl rfl (rdraw.op rfl rfl (rdraw.done (RW.reg (rl.run 3 rfl (rl.done ?_))))))
        cases h19
        exact hB9 _ rfl _ _ (Gh.ren0 [0, 1, 2, 3] (.same rfl (ek_TRec.fref _ _) (.cells rfl rfl (.keep (ek_TBox.rlst) .nil) (.cells rfl rfl (.keep (ek_TBox.rlst) .nil) (.cells rfl rfl (.keep .int (.keep .str (.keep .str (.keep .int (.keep (ek_TMail.rlst) .nil))))) .nil)))) rfl (.cons rfl (.slq rfl rfl) (.cons rfl (.ptr rfl) (.cons rfl (.ptr rfl) (.cons rfl (.dat .int) (.cons rfl (.ptr rfl) (.cons rfl (.dat .bool) (.cons rfl (.dat .int) .nil))))))))
     ·have h20 := iteBT h12 hb
      refine rdraw.off rfl (rdraw.off rfl (rdraw.off rfl (rdraw.off rfl (rdraw.off rfl (rdraw.off rfl (rdraw.off rfl (rdraw.off rfl (rdraw.off rfl (rdraw.off rfl (rdraw.off rfl (rdraw.off rfl ?_)))))))))))
      refine rdraw.off rfl (rdraw.off rfl (rdraw.off rfl (rdraw.off rfl (rdraw.off rfl (rdraw.off rfl (rdraw.off rfl (rdraw.off rfl (rdraw.op rfl rfl (rdraw.op rfl rfl (rdraw.done (RW.reg ?_)))))))))))
      refine rl.run 3 rfl (rl.done ?_)
      cases h20
      exact hB9 _ rfl _ _ (Gh.ren0 [0, 1, 2, 3] (.same rfl (ek_TRec.fref _ _) (.cells rfl rfl (.keep (ek_TBox.rlst) .nil) (.cells rfl rfl (.keep (ek_TBox.rlst) .nil) (.cells rfl rfl (.keep .int (.keep .str (.keep .str (.keep .int (.keep (ek_TMail.rlst) .nil))))) .nil)))) rfl (.cons rfl (.slq rfl rfl) (.cons rfl (.ptr rfl) (.cons rfl (.ptr rfl) (.cons rfl (.dat .int) (.cons rfl (.ptr rfl) (.cons rfl (.dat .bool) (.cons rfl (.dat .int) .nil))))))))
   ·intro y8 hC
    subst hC
    refine RW.seq (RW.sreg (rl.run 1 rfl (rl.done ?_)))
    cases hb : y11
    ·have h21 := iteBF h10 hb
     refine RW.cond_f rfl (RW.skip (RW.reg (rl.run 11 rfl ?_)))
     obtain ⟨v12, e12, h22⟩ := bindS h21
     refine rl.op (x_app rfl rfl (rapp_sl (l := s4.2) (m := [({ Kind := 1, Valid := v6.Valid, Uid := 0, Next := v6.Next, Flags := 0, User := v6.User, Name := v6.Name, Text := [] } : TRec)]) (o := true) ek_TRec rfl rfl (acont_slq (m := [({ Kind := 1, Valid := v6.Valid, Uid := 0, Next := v6.Next, Flags := 0, User := v6.User, Name := v6.Name, Text := [] } : TRec)]) (o := true) fk_TRec rfl rfl) rfl (fk_TRec.fst _ _) e12)) ?_
     refine rl.run 1 rfl (rl.done (RW.reg (rl.run 3 rfl (rl.done ?_))))
     cases h22
     exact hB4 _ rfl _ _ (Gh.ren0 [5, 1, 2] (.same rfl (ek_TRec.fref _ _) (.cells rfl rfl (.keep (ek_TBox.rlst) .nil) (.cells rfl rfl (.keep (ek_TBox.rlst) .nil) .nil))) rfl (.cons rfl (.slq rfl rfl) (.cons rfl (.ptr rfl) (.cons rfl (.ptr rfl) (.cons rfl (.dat .int) .nil)))))
    ·have h23 := iteBT h10 hb
     refine RW.cond_t rfl (RW.exit (blkA_eq (RW.reg (rl.run 3 rfl (rl.done ?_)))))
     cases h23
     exact hB4 _ rfl _ _ (Gh.ren0 [0, 1, 2] (.same rfl (ek_TRec.fref _ _) (.cells rfl rfl (.keep (ek_TBox.rlst) .nil) (.cells rfl rfl (.keep (ek_TBox.rlst) .nil) .nil))) rfl (.cons rfl (.slq rfl rfl) (.cons rfl (.ptr rfl) (.cons rfl (.ptr rfl) (.cons rfl (.dat .int) .nil)))))
 ·intro y5 hC
  subst hC
  refine RW.sreg (rl.run 2 rfl (rl.done (RW.ret ?_)))
  cases h5
  exact RRet.mk rfl (OutR.ownq ek_TRec rfl rfl) (by first | decide | simp)
set_option maxHeartbeats 2000000 in
theorem law_spec_Shrunk {x0 : List TItem} {x1 : List Bool} {x2 : Int} {r : List TItem} (hF : F_spec_Shrunk x0 x1 x2 = some r) : PCalls Try.prog 37 [L_TItem x0, L_O x1, .j x2] (.lst true 9 (fl (enc_TItem true) r) r.length) := by
 refine PCalls.of_r k_spec_Shrunk rfl ?_
 unfold F_spec_Shrunk at hF
 refine RW.sreg (rl.run 1 rfl (rl.done (RW.sreg (rl.run 1 rfl ?_))))
 obtain ⟨v1, e1, h1⟩ := bindS hF
 refine rl.call rfl rfl rfl (CallW.val (r' := L_O v1) ok_spec_NeededAll (law_spec_NeededAll e1) (.cons (.lst ek_TItem) .nil) (ekO.fflag _).lst ?_)
 refine rl.run 1 rfl (rl.done (RW.sreg (rl.run 2 rfl ?_)))
 obtain ⟨v2, e2, h2⟩ := bindS h1
 refine rl.op (x_ms ekO rfl rfl e2 rfl) ?_
 refine rl.run 1 rfl (rl.done (RW.seq (RW.sreg (rl.run 1 rfl (rl.done ?_)))))
 obtain ⟨y13, ey13, h4⟩ := bindS h2
 refine RW.cutq (σ := (List Bool)) (fun y4 => [(0, L_TItem x0), (2, .j x2), (8, .sl 0 0 y4.length)]) (fun y4 => [some ⟨fl (encO true) y4, 1⟩]) (fun y => y13 = y) (fun _ _ _ _ g h => RW.gh g h) ?_ ?_
 ·refine RW.blk ?_
  refine RW.iter (σ := Int × (List Bool)) ey13 (fun s3 => [(0, L_TItem x0), (1, L_O x1), (2, .j x2), (7, L_O v1), (8, .sl 0 0 s3.2.length), (9, .j s3.1)]) (fun s3 => [some ⟨fl (encO true) s3.2, 1⟩]) (Gh.ren0 [0] (.same rfl (ekO.fref _ _) .nil) rfl (.cons rfl (.dat (ek_TItem.rlst)) (.cons rfl (.dat (ekO.rlst)) (.cons rfl (.dat .int) (.cons rfl (.dat (ekO.rlst)) (.cons rfl (.slq rfl rfl) (.cons rfl (.dat .int) .nil))))))) (fun s3 B o hS3 hB3 hE3 => ?_)
  unfold S_spec_Shrunk_1 at hS3
  refine RW.seq (RW.sreg (rl.run 3 rfl ?_))
  refine rl.gen rfl rfl fun b hb => ?_
  cases b
  ·have h5 := iteBF hS3 hb
   refine rl.done (RW.cond_f rfl (RW.exit (blkA_eq ?_)))
   cases h5
   exact ⟨_, (hE3 _ rfl).symm, (Gh.ren0 [0] (.same rfl (ekO.fref _ _) .nil) rfl (.cons rfl (.dat (ek_TItem.rlst)) (.cons rfl (.dat .int) (.cons rfl (.slq rfl rfl) .nil))))⟩
  ·have h6 := iteBT hS3 hb
   refine rl.done (RW.cond_t rfl (RW.skip (RW.seq (RW.blk (RW.reg (rl.run 5 rfl ?_))))))
   refine rl.gen rfl rfl fun b hb => ?_
   cases b
   ·have h7 := iteBF h6 hb
    refine rl.run 13 rfl ?_
    obtain ⟨v5, e5, h8⟩ := bindS h7
    refine rl.op (x_ia_sl rfl rfl rfl rfl e5) ?_
    obtain ⟨v6, e6, h9⟩ := bindS h8
    refine rl.op0 (x_st_sl' (off' := 0) (o := true) (e' := false) ekO e5 rfl rfl rfl rfl rfl rfl rfl rfl rfl e6) ?_
    refine rl.done (RW.reg (rl.run 3 rfl (rl.done ?_)))
    cases h9
    exact hB3 _ rfl _ _ (Gh.ren0 [0] (.same rfl (ekO.fref _ _) .nil) rfl (.cons rfl (.dat (ek_TItem.rlst)) (.cons rfl (.dat (ekO.rlst)) (.cons rfl (.dat .int) (.cons rfl (.dat (ekO.rlst)) (.cons rfl (.slq rfl (set'_len e6)) (.cons rfl (.dat .int) .nil)))))))
   ·have h10 := iteBT h6 hb
    refine rl.run 3 rfl ?_
    obtain ⟨v7, e7, h11⟩ := bindS h10
    refine rl.gop rfl (x_ia_lst (enc := encO) (o := false) rfl rfl rfl e7) ?_
    refine rl.gop rfl (x_ld_el (off' := 0) ekO rfl e7 rfl rfl rfl) ?_
    refine rl.run 2 rfl ?_
    cases hb : v7
    ·have h12 := iteBF h11 hb
     refine rl.run 6 rfl ?_
     obtain ⟨v8, e8, h13⟩ := bindS h12
     refine rl.op (x_ia_sl rfl rfl rfl rfl e8) ?_
     obtain ⟨v9, e9, h14⟩ := bindS h13
     refine rl.op0 (x_st_sl' (off' := 0) (o := true) (e' := false) ekO e8 rfl rfl rfl rfl rfl rfl rfl rfl rfl e9) ?_
     refine rl.done (RW.reg (rl.run 3 rfl (rl.done ?_)))
     cases h14
     exact hB3 _ rfl _ _ (Gh.ren0 [0] (.same rfl (ekO.fref _ _) .nil) rfl (.cons rfl (.dat (ek_TItem.rlst)) (.cons rfl (.dat (ekO.rlst)) (.cons rfl (.dat .int) (.cons rfl (.dat (ekO.rlst)) (.cons rfl (.slq rfl (set'_len e9)) (.cons rfl (.dat .int) .nil)))))))
    ·have h15 := iteBT h11 hb
     refine rl.run 2 rfl ?_
     obtain ⟨v10, e10, h16⟩ := bindS h15
     refine rl.gop rfl (x_ia_lst (enc := encO) (o := false) rfl rfl rfl e10) ?_
     refine rl.gop rfl (x_ld_el (off' := 0) ekO rfl e10 rfl rfl rfl) ?_
     refine rl.run 2 rfl ?_
     obtain ⟨v11, e11, h17⟩ := bindS h16
     refine rl.op (x_ia_sl rfl rfl rfl rfl e11) ?_
     obtain ⟨v12, e12, h18⟩ := bindS h17
     refine rl.op0 (x_st_sl' (off' := 0) (o := true) (e' := !v10) ekO e11 rfl rfl rfl rfl rfl rfl rfl rfl rfl e12) ?_
     refine rl.done (RW.reg (rl.run 3 rfl (rl.done ?_)))
     cases h18
     exact hB3 _ rfl _ _ (Gh.ren0 [0] (.same rfl (ekO.fref _ _) .nil) rfl (.cons rfl (.dat (ek_TItem.rlst)) (.cons rfl (.dat (ekO.rlst)) (.cons rfl (.dat .int) (.cons rfl (.dat (ekO.rlst)) (.cons rfl (.slq rfl (set'_len e12)) (.cons rfl (.dat .int) .nil)))))))
 ·intro y4 hC
  subst hC
  refine RW.sreg (rl.run 2 rfl ?_)
  obtain ⟨v14, e14, h19⟩ := bindS h4
  refine rl.call rfl rfl rfl (CallW.own (r' := .sl 1 0 v14.length) (H' := [some ⟨fl (encO true) y13, 1⟩, some ⟨fl (enc_TItem true) v14, 9⟩]) ok_spec_Without (law_spec_Without e14) (.cons (.lst ek_TItem) (.cons (.slq ekO rfl rfl) .nil)) (.lst (ek_TItem.fown _)) rfl ?_)
  refine rl.run 1 rfl (rl.done (RW.sreg (rl.run 2 rfl ?_)))
  obtain ⟨v15, e15, h20⟩ := bindS h19
  refine rl.call rfl rfl rfl (CallW.val (r' := L_TRec v15) ok_spec_NextsOf (law_spec_NextsOf e15) (.cons (.lst ek_TItem) (.cons (.slq ekO rfl rfl) .nil)) (ek_TRec.fflag _).lst ?_)
  refine rl.run 1 rfl (rl.done (RW.seq (RW.sreg (rl.run 1 rfl (rl.done ?_)))))
  obtain ⟨y20, ey20, h22⟩ := bindS h20
  refine RW.cutq (σ := (List TItem)) (fun y17 => [(10, .sl 0 0 y17.length)]) (fun y17 => [some ⟨fl (enc_TItem true) y17, 9⟩]) (fun y => y20 = y) (fun _ _ _ _ g h => RW.gh g h) ?_ ?_
  ·refine RW.blk ?_
   refine RW.iter (σ := Int × (List TItem)) ey20 (fun s16 => [(2, .j x2), (10, .sl 0 0 s16.2.length), (11, L_TRec v15), (12, .j s16.1)]) (fun s16 => [some ⟨fl (enc_TItem true) s16.2, 9⟩]) (Gh.ren0 [1] (.same rfl (ek_TItem.fref _ _) .nil) rfl (.cons rfl (.dat .int) (.cons rfl (.slq rfl rfl) (.cons rfl (.dat (ek_TRec.rlst)) (.cons rfl (.dat .int) .nil))))) (fun s16 B o hS21 hB21 hE21 => ?_)
   unfold S_spec_Shrunk_2 at hS21
   refine RW.seq (RW.sreg (rl.run 3 rfl ?_))
   refine rl.gen rfl rfl fun b hb => ?_
   cases b
   ·have h23 := iteBF hS21 hb
    refine rl.done (RW.cond_f rfl (RW.exit (blkA_eq ?_)))
    cases h23
    exact ⟨_, (hE21 _ rfl).symm, (Gh.ren0 [0] (.same rfl (ek_TItem.fref _ _) .nil) rfl (.cons rfl (.slq rfl rfl) .nil))⟩
   ·have h24 := iteBT hS21 hb
    refine rl.done (RW.cond_t rfl (RW.skip (RW.seq (RW.blk (RW.reg (rl.run 6 rfl ?_))))))
    obtain ⟨v18, e18, h25⟩ := bindS h24
    refine rl.op (x_ia_lst (enc := enc_TRec) (o := false) rfl rfl rfl e18) ?_
    refine rl.op (x_ld_ela (off' := 0) (vs := (enc_TRec false v18)) ek_TRec rfl e18 rfl rfl rfl) ?_
    refine rl.run 2 rfl ?_
    obtain ⟨v19, e19, h26⟩ := bindS h25
    refine rl.op (x_app rfl rfl (rapp_sl (l := s16.2) (m := [({ Seq := w64 (x2 + s16.1), Rec := v18 } : TItem)]) (o := true) ek_TItem rfl rfl (acont_slq (m := [({ Seq := w64 (x2 + s16.1), Rec := v18 } : TItem)]) (o := true) fk_TItem rfl rfl) rfl (fk_TItem.fst _ _) e19)) ?_
    refine rl.run 1 rfl (rl.done (RW.reg (rl.run 3 rfl (rl.done ?_))))
    cases h26
    exact hB21 _ rfl _ _ (Gh.ren0 [2] (.same rfl (ek_TItem.fref _ _) .nil) rfl (.cons rfl (.dat .int) (.cons rfl (.slq rfl rfl) (.cons rfl (.dat (ek_TRec.rlst)) (.cons rfl (.dat .int) .nil)))))
  ·intro y17 hC
   subst hC
   refine RW.sreg (rl.run 2 rfl (rl.done (RW.ret ?_)))
   cases h22
   exact RRet.mk rfl (OutR.ownq ek_TItem rfl rfl) (by first | decide | simp)
theorem law_laws_big {x0 : List Int} {r : Bool} (hF : F_laws_big x0 = some r) : PCalls Try.prog 8 [L_B x0] (.bool r) := by
 refine PCalls.of_r k_laws_big rfl ?_
 unfold F_laws_big at hF
 refine RW.sreg (rl.run 1 rfl (rl.done (RW.sreg (rl.run 4 rfl (rl.done (RW.ret ?_))))))
 cases hF
 exact RRet.mk rfl .bool (by first | decide | simp)
set_option maxHeartbeats 2000000 in
theorem law_laws_FnShrinks {x0 : List Int} {r : Bool} (hF : F_laws_FnShrinks x0 = some r) : PCalls Try.prog 6 [L_B x0] (.bool r) := by
 refine PCalls.of_r k_laws_FnShrinks rfl ?_
 unfold F_laws_FnShrinks at hF
 refine RW.sreg (rl.run 1 rfl (rl.done (RW.seq (RW.sreg (rl.run 1 rfl ?_)))))
 obtain ⟨v1, e1, h1⟩ := bindS hF
 refine rl.call rfl rfl rfl (CallW.val (r' := .bool v1) ok_laws_big (law_laws_big e1) (.cons (.lst ekB) .nil) .refl ?_)
 cases hb : v1
 ·have h2 := iteBF h1 hb
  refine rl.done (RW.cond_f rfl (RW.skip (RW.sreg (rl.run 1 rfl ?_))))
  obtain ⟨v2, e2, h3⟩ := bindS h2
  refine rl.call rfl rfl rfl (CallW.val (r' := L_TItem v2) ok_spec_DrawItems (law_spec_DrawItems e2) (.cons (.lst ekB) .nil) (ek_TItem.fflag _).lst ?_)
  refine rl.run 1 rfl (rl.done (RW.sreg (rl.run 1 rfl ?_)))
  obtain ⟨v3, e3, h4⟩ := bindS h3
  refine rl.call rfl rfl rfl (CallW.val (r' := L_I v3) ok_spec_DrawPlaces (law_spec_DrawPlaces e3) (.cons (.lst ekB) .nil) (ekI.fflag _).lst ?_)
  refine rl.run 1 rfl (rl.done (RW.sreg (rl.run 3 rfl ?_)))
  obtain ⟨v4, e4, h5⟩ := bindS h4
  refine rl.call rfl rfl rfl (CallW.val (r' := L_O v4) ok_laws_chosen (law_laws_chosen e4) (.cons .int (.cons (.lst ekI) .nil)) (ekO.fflag _).lst ?_)
  refine rl.run 1 rfl (rl.done ?_)
  refine RW.kp [3, 5] [(3, L_TItem v2), (5, L_O v4)] [] rfl rfl ?_
  refine RW.sreg (rl.run 2 rfl ?_)
  obtain ⟨v5, e5, h6⟩ := bindS h5
  refine rl.call rfl rfl rfl (CallW.val (r' := L_TItem v5) ok_impl_Shrunk (law_impl_Shrunk e5) (.cons (.lst ek_TItem) (.cons (.lst ekO) (.cons .int .nil))) (ek_TItem.fflag _).lst ?_)
  refine rl.run 1 rfl (rl.done (RW.sreg (rl.run 2 rfl (rl.done (RW.seq (RW.sreg (rl.run 1 rfl (rl.done ?_))))))))
  refine RW.gh (Gh.nil_t 7 1 rfl) ?_
  obtain ⟨y9, ey9, h8⟩ := bindS h6
  refine RW.cutq (σ := (List Bool)) (fun y7 => [(3, L_TItem v2), (5, L_O v4), (6, L_TItem v5), (7, .sl 0 0 y7.length)]) (fun y7 => [some ⟨fl (encO true) y7, 1⟩]) (fun y => y9 = y) (fun _ _ _ _ g h => RW.gh g h) ?_ ?_
  ·refine RW.blk ?_
   refine RW.iter (σ := Int × (List Bool)) ey9 (fun s6 => [(3, L_TItem v2), (5, L_O v4), (6, L_TItem v5), (7, .sl 0 0 s6.2.length), (8, .j s6.1)]) (fun s6 => [some ⟨fl (encO true) s6.2, 1⟩]) (Gh.ren0 [0] (.same rfl (ekO.fref _ _) .nil) rfl (.cons rfl (.dat (ek_TItem.rlst)) (.cons rfl (.dat (ekO.rlst)) (.cons rfl (.dat (ek_TItem.rlst)) (.cons rfl (.slq rfl rfl) (.cons rfl (.dat .int) .nil)))))) (fun s6 B o hS7 hB7 hE7 => ?_)
   unfold S_laws_FnShrinks_1 at hS7
   refine RW.seq (RW.sreg (rl.run 3 rfl ?_))
   refine rl.gen rfl rfl fun b hb => ?_
   cases b
   ·have h9 := iteBF hS7 hb
    refine rl.done (RW.cond_f rfl (RW.exit (blkA_eq ?_)))
    cases h9
    exact ⟨_, (hE7 _ rfl).symm, (Gh.ren0 [0] (.same rfl (ekO.fref _ _) .nil) rfl (.cons rfl (.dat (ek_TItem.rlst)) (.cons rfl (.dat (ekO.rlst)) (.cons rfl (.dat (ek_TItem.rlst)) (.cons rfl (.slq rfl rfl) .nil)))))⟩
   ·have h10 := iteBT hS7 hb
    refine rl.done (RW.cond_t rfl (RW.skip (RW.seq (RW.blk (RW.reg (rl.run 2 rfl ?_))))))
    obtain ⟨v8, e8, h11⟩ := bindS h10
    refine rl.op (x_app rfl rfl (rapp_sl (l := s6.2) (m := [true]) (o := true) ekO rfl rfl (acont_slq (m := [true]) (o := true) fkO rfl rfl) rfl (fkO.fst _ _) e8)) ?_
    refine rl.run 1 rfl (rl.done (RW.reg (rl.run 3 rfl (rl.done ?_))))
    cases h11
    exact hB7 _ rfl _ _ (Gh.ren0 [2] (.same rfl (ekO.fref _ _) .nil) rfl (.cons rfl (.dat (ek_TItem.rlst)) (.cons rfl (.dat (ekO.rlst)) (.cons rfl (.dat (ek_TItem.rlst)) (.cons rfl (.slq rfl rfl) (.cons rfl (.dat .int) .nil))))))
  ·intro y7 hC
   subst hC
   refine RW.sreg (rl.run 2 rfl ?_)
   obtain ⟨v10, e10, h12⟩ := bindS h8
   refine rl.call rfl rfl rfl (CallW.val (r' := L_TItem v10) ok_impl_Shrunk (law_impl_Shrunk e10) (.cons (.lst ek_TItem) (.cons (.slq ekO rfl rfl) (.cons .int .nil))) (ek_TItem.fflag _).lst ?_)
   refine rl.run 1 rfl (rl.done (RW.sreg (rl.run 1 rfl ?_)))
   obtain ⟨v11, e11, h13⟩ := bindS h12
   refine rl.call rfl rfl rfl (CallW.val (r' := .agg (enc_TState false v11)) ok_spec_StateOf (law_spec_StateOf e11) (.cons (.lst ek_TItem) .nil) (ek_TState.flag _).agg ?_)
   refine rl.run 2 rfl (rl.done (RW.seq ?_))
   obtain ⟨y12, ey12, h14⟩ := bindS h13
   refine RW.cutq (σ := Bool) (fun y12 => [(2, .bool y12)]) (fun y12 => []) (fun y => y12 = y) (fun _ _ _ _ g h => RW.gh g h) ?_ ?_
   ·refine RW.drw ?_
    refine rdraw.op rfl rfl ?_
    obtain ⟨v13, e13, h15⟩ := bindS ey12
    refine rdraw.call rfl rfl rfl (CallW.val (r' := .agg (enc_TState false v13)) ok_spec_StateOf (law_spec_StateOf e13) (.cons (.lst ek_TItem) .nil) (ek_TState.flag _).agg ⟨rfl, ?_⟩)
    refine rdraw.op rfl rfl ?_
    obtain ⟨v14, e14, h16⟩ := bindS h15
    refine rdraw.call rfl rfl rfl (CallW.val (r' := .bool v14) ok_spec_SameState (law_spec_SameState e14) (.cons (.dat (.agg (ek_TState.dat false _))) (.cons (DFL.agg (.cons (.lst ek_TBox) .nil)) .nil)) .refl ⟨rfl, ?_⟩)
    cases hb : v14
    ·have h17 := iteBF h16 hb
     refine rdraw.op rfl rfl (rdraw.off rfl (rdraw.off rfl (rdraw.off rfl (rdraw.off rfl (rdraw.op rfl rfl (rdraw.op rfl rfl (rdraw.off rfl (rdraw.off rfl (rdraw.op rfl rfl (rdraw.op rfl rfl (rdraw.off rfl ?_)))))))))))
     refine rdraw.off rfl (rdraw.off rfl (rdraw.off rfl (rdraw.off rfl (rdraw.op rfl rfl (rdraw.op rfl rfl (rdraw.off rfl (rdraw.off rfl (rdraw.off rfl (rdraw.off rfl (rdraw.off rfl (rdraw.off rfl ?_)))))))))))
     refine rdraw.off rfl (rdraw.off rfl (rdraw.off rfl (rdraw.op rfl rfl (rdraw.op rfl rfl (rdraw.done ?_)))))
     cases h17
     exact ⟨_, rfl, (Gh.ren0 [] .nil rfl (.cons rfl (.dat .bool) .nil))⟩
    ·have h18 := iteBT h16 hb
     refine rdraw.op rfl rfl (rdraw.op rfl rfl ?_)
     obtain ⟨v15, e15, h19⟩ := bindS h18
     refine rdraw.call rfl rfl rfl (CallW.val (r' := .agg (enc_TState false v15)) ok_spec_StateOf (law_spec_StateOf e15) (.cons (.lst ek_TItem) .nil) (ek_TState.flag _).agg ⟨rfl, ?_⟩)
     refine rdraw.op rfl rfl ?_
     obtain ⟨v16, e16, h20⟩ := bindS h19
     refine rdraw.call rfl rfl rfl (CallW.val (r' := .bool v16) ok_spec_SameState (law_spec_SameState e16) (.cons (.dat (.agg (ek_TState.dat false _))) (.cons (DFL.agg (.cons (.lst ek_TBox) .nil)) .nil)) .refl ⟨rfl, ?_⟩)
     cases hb : v16
     ·have h21 := iteBF h20 hb
      refine rdraw.op rfl rfl (rdraw.op rfl rfl (rdraw.off rfl (rdraw.off rfl (rdraw.op rfl rfl (rdraw.op rfl rfl (rdraw.off rfl (rdraw.off rfl (rdraw.off rfl (rdraw.off rfl (rdraw.off rfl (rdraw.op rfl rfl ?_)))))))))))
      refine rdraw.op rfl rfl (rdraw.off rfl (rdraw.off rfl (rdraw.off rfl (rdraw.off rfl (rdraw.off rfl (rdraw.off rfl (rdraw.off rfl (rdraw.off rfl (rdraw.off rfl (rdraw.op rfl rfl (rdraw.op rfl rfl ?_)))))))))))
      refine rdraw.done ?_
      cases h21
      exact ⟨_, rfl, (Gh.ren0 [] .nil rfl (.cons rfl (.dat .bool) .nil))⟩
     ·have h22 := iteBT h20 hb
      refine rdraw.op rfl rfl (rdraw.op rfl rfl (rdraw.op rfl rfl ?_))
      obtain ⟨v17, e17, h23⟩ := bindS h22
      refine rdraw.call rfl rfl rfl (CallW.val (r' := .bool v17) ok_spec_ItemsOk (law_spec_ItemsOk e17) (.cons (.lst ek_TItem) .nil) .refl ⟨rfl, ?_⟩)
      cases hb : v17
      ·have h24 := iteBF h23 hb
       refine rdraw.op rfl rfl (rdraw.op rfl rfl (rdraw.off rfl (rdraw.off rfl (rdraw.off rfl (rdraw.off rfl (rdraw.off rfl (rdraw.op rfl rfl (rdraw.op rfl rfl (rdraw.off rfl (rdraw.off rfl (rdraw.off rfl ?_)))))))))))
       refine rdraw.off rfl (rdraw.off rfl (rdraw.off rfl (rdraw.off rfl (rdraw.off rfl (rdraw.off rfl (rdraw.op rfl rfl (rdraw.op rfl rfl (rdraw.done ?_))))))))
       cases h24
       exact ⟨_, rfl, (Gh.ren0 [] .nil rfl (.cons rfl (.dat .bool) .nil))⟩
      ·have h25 := iteBT h23 hb
       refine rdraw.op rfl rfl (rdraw.op rfl rfl (rdraw.op rfl rfl (rdraw.op rfl rfl (rdraw.op rfl rfl ?_))))
       obtain ⟨v18, e18, h26⟩ := bindS h25
       refine rdraw.call rfl rfl rfl (CallW.val (r' := L_TItem v18) ok_spec_Shrunk (law_spec_Shrunk e18) (.cons (.lst ek_TItem) (.cons (.lst ekO) (.cons .int .nil))) (ek_TItem.fflag _).lst ⟨rfl, ?_⟩)
       obtain ⟨v19, e19, h27⟩ := bindS h26
       refine rdraw.call rfl rfl rfl (CallW.val (r' := .bool v19) ok_laws_sameItems (law_laws_sameItems e19) (.cons (.lst ek_TItem) (.cons (.lst ek_TItem) .nil)) .refl ⟨rfl, ?_⟩)
       cases hb : v19
       ·have h28 := iteBF h27 hb
        refine rdraw.op rfl rfl (rdraw.op rfl rfl (rdraw.off rfl (rdraw.off rfl (rdraw.off rfl (rdraw.off rfl (rdraw.off rfl (rdraw.off rfl (rdraw.off rfl (rdraw.off rfl (rdraw.off rfl (rdraw.op rfl rfl ?_)))))))))))
        refine rdraw.op rfl rfl (rdraw.done ?_)
        cases h28
        exact ⟨_, rfl, (Gh.ren0 [] .nil rfl (.cons rfl (.dat .bool) .nil))⟩
       ·have h29 := iteBT h27 hb
        refine rdraw.op rfl rfl (rdraw.op rfl rfl (rdraw.op rfl rfl (rdraw.op rfl rfl (rdraw.op rfl rfl (rdraw.op rfl rfl (rdraw.op rfl rfl (rdraw.op rfl rfl (rdraw.op rfl rfl (rdraw.op rfl rfl (rdraw.op rfl rfl (rdraw.op rfl rfl ?_)))))))))))
        refine rdraw.op rfl rfl (rdraw.done ?_)
        cases h29
        exact ⟨_, rfl, (Gh.ren0 [] .nil rfl (.cons rfl (.dat .bool) .nil))⟩
   ·intro y hC
    subst hC
    refine RW.ret ?_
    cases h14
    exact RRet.mk rfl .bool (by first | decide | simp)
 ·have h30 := iteBT h1 hb
  refine rl.done (RW.cond_t rfl (RW.sreg (rl.run 1 rfl (rl.done (RW.ret ?_)))))
  cases h30
  exact RRet.mk rfl .bool (by first | decide | simp)
end Go.Proofs.Ytldndhdohlfpgaa.V
