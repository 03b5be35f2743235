/- What a call comes to. -/
import Derived.Test.YtcehlicmghnghaaXD0
namespace Go.Proofs.Ytcehlicmghnghaa.V
open Go Go.Proofs Go.RowKit
set_option maxRecDepth 100000
theorem law_impl_numbers_StateOf_1 {x0 : List TItem} {r : List Int} (hF : F_impl_numbers_StateOf_1 x0 = some r) : PCalls Try.prog 35 [.lst false 9 (fl (enc_TItem false) x0) x0.length, .fn 36 []] (.lst true 1 (fl (encI true) r) r.length) := by
 refine PCalls.of_r k_impl_numbers rfl ?_
 unfold F_impl_numbers_StateOf_1 at hF
 refine RW.sreg (rl.run 1 rfl (rl.done (RW.sreg (rl.run 2 rfl (rl.done (RW.seq (RW.sreg (rl.run 3 rfl (rl.done ?_)))))))))
 refine RW.gh (Gh.nil_t 5 1 rfl) ?_
 obtain ⟨y6, ey6, h2⟩ := bindS hF
 refine RW.cutq (σ := (List Int)) (fun y2 => [(5, .sl 0 0 y2.length)]) (fun y2 => [some ⟨fl (encI true) y2, 1⟩]) (fun y => y6 = y) (fun _ _ _ _ g h => RW.gh g h) ?_ ?_
 ·refine RW.blk ?_
  refine RW.iter (σ := Int × (List Int)) ey6 (fun s1 => [(1, .fn 36 []), (5, .sl 0 0 s1.2.length), (11, .lst false 9 (fl (enc_TItem false) x0) x0.length), (12, .int .i64 (x0.length : Int)), (13, .int .i64 s1.1)]) (fun s1 => [some ⟨fl (encI true) s1.2, 1⟩]) (Gh.ren0 [0] (.same rfl (ekI.fref _ _) .nil) rfl (.cons rfl (RnL.fn .nil) (.cons rfl (.slq rfl rfl) (.cons rfl (.dat (ek_TItem.rlst)) (.cons rfl (.dat .int) (.cons rfl (.dat .int) .nil)))))) (fun s1 B o hS1 hB1 hE1 => ?_)
  unfold S_impl_numbers_StateOf_1_1 at hS1
  refine RW.sreg ?_
  refine rl.gen rfl rfl fun b hb => ?_
  cases b
  ·have h3 := iteBF hS1 hb
   refine rl.done (RW.seq (RW.cond_f rfl (RW.exit (blkA_eq ?_))))
   cases h3
   exact ⟨_, (hE1 _ rfl).symm, (Gh.ren0 [0] (.same rfl (ekI.fref _ _) .nil) rfl (.cons rfl (.slq rfl rfl) .nil))⟩
  ·have h4 := iteBT hS1 hb
   refine rl.done (RW.seq (RW.cond_t rfl (RW.skip (RW.seq (RW.blk (RW.sreg ?_))))))
   obtain ⟨v3, e3, h5⟩ := bindS h4
   refine rl.op (x_ia_lst (enc := enc_TItem) (o := false) rfl rfl rfl e3) ?_
   refine rl.op (x_ld_ela (off' := 0) (vs := (enc_TItem false v3)) ek_TItem rfl e3 rfl rfl rfl) ?_
   refine rl.run 2 rfl (rl.done (RW.sreg (rl.run 3 rfl ?_)))
   obtain ⟨v4, e4, h6⟩ := bindS h5
   refine rl.call rfl rfl rfl (CallW.val (r' := .tup [.int .i64 v4.1, .bool v4.2]) ok_impl_StateOf_1 (law_impl_StateOf_1 e4) (.cons (DFL.agg (.cons .int (.cons .int (.cons .int (.cons .int (.cons .int (.cons .str (.cons .str (.cons .str .nil))))))))) .nil) (FlL.tup (.cons .refl (.cons .refl .nil))) ?_)
   refine rl.run 5 rfl (rl.done ?_)
   refine RW.keep [1, 5, 8, 9, 11, 12, 13] (a' := [(1, .fn 36 []), (5, .sl 0 0 s1.2.length), (8, .int .i64 v4.1), (9, .bool v4.2), (11, .lst false 9 (fl (enc_TItem false) x0) x0.length), (12, .int .i64 (x0.length : Int)), (13, .int .i64 s1.1)]) (H' := [some ⟨fl (encI true) s1.2, 1⟩, some ⟨[.int .i64 v3.Seq, .int .i64 v3.Rec.Kind, .int .i64 v3.Rec.Valid, .int .i64 v3.Rec.Uid, .int .i64 v3.Rec.Next, .int .i64 v3.Rec.Flags, .str v3.Rec.User, .str v3.Rec.Name, .str v3.Rec.Text], 0⟩]) rfl rfl ?_
   refine RW.sreg (rl.run 1 rfl (rl.done ?_))
   cases hb : v4.2
   ·have h7 := iteBF h6 hb
    refine RW.cond_f rfl (RW.skip (RW.reg (rl.run 2 rfl (rl.done ?_))))
    cases h7
    exact hB1 _ rfl _ _ (Gh.ren0 [0] (.same rfl (ekI.fref _ _) .nil) rfl (.cons rfl (RnL.fn .nil) (.cons rfl (.slq rfl rfl) (.cons rfl (.dat (ek_TItem.rlst)) (.cons rfl (.dat .int) (.cons rfl (.dat .int) .nil))))))
   ·have h8 := iteBT h6 hb
    refine RW.cond_t rfl (RW.reg (rl.run 3 rfl ?_))
    obtain ⟨v5, e5, h9⟩ := bindS h8
    refine rl.op (x_app rfl rfl (rapp_sl (l := s1.2) (m := [v4.1]) (o := true) ekI rfl rfl (acont_slq (m := [v4.1]) (o := true) fkI rfl rfl) rfl (fkI.fst _ _) e5)) ?_
    refine rl.run 1 rfl (rl.done (RW.reg (rl.run 2 rfl (rl.done ?_))))
    cases h9
    exact hB1 _ rfl _ _ (Gh.ren0 [3] (.same rfl (ekI.fref _ _) .nil) rfl (.cons rfl (RnL.fn .nil) (.cons rfl (.slq rfl rfl) (.cons rfl (.dat (ek_TItem.rlst)) (.cons rfl (.dat .int) (.cons rfl (.dat .int) .nil))))))
 ·intro y2 hC
  subst hC
  refine RW.sreg (rl.run 1 rfl ?_)
  obtain ⟨v7, e7, h10⟩ := bindS h2
  refine rl.call rfl rfl rfl (CallW.sortI (H' := [some ⟨fl (encI true) v7, 1⟩]) lay_slices_Sort_int e7 rfl rfl rfl rfl ?_)
  refine rl.done (RW.sreg (rl.run 1 rfl ?_))
  obtain ⟨v8, e8, h11⟩ := bindS h10
  refine rl.call rfl rfl rfl (CallW.compI (H' := [some ⟨fl (encI true) v8, 1⟩]) lay_slices_Compact_int e8 rfl ((sort?_length e7)).symm rfl rfl ?_)
  refine rl.run 1 rfl (rl.done (RW.ret ?_))
  cases h11
  exact RRet.mk rfl (OutR.ownq ekI rfl rfl) (by first | decide | simp)
theorem law_impl_about {x0 : TRec} {x1 : Int} {x2 : Int} {r : Bool} (hF : F_impl_about x0 x1 x2 = some r) : PCalls Try.prog 64 [.agg (enc_TRec false x0), .int .i64 x1, .int .i64 x2] (.bool r) := by
 refine PCalls.of_r k_impl_about rfl ?_
 unfold F_impl_about at hF
 refine RW.sreg (rl.run 2 rfl (rl.done (RW.sreg (rl.run 3 rfl ?_))))
 refine rl.gen rfl rfl fun b hb => ?_
 cases b
 ·have h1 := iteBF hF hb
  refine rl.run 7 rfl (rl.done ?_)
  refine RW.keep [6] (a' := [(6, .bool false)]) (H' := [some ⟨[.int .i64 x0.Kind, .int .i64 x0.Valid, .int .i64 x0.Uid, .int .i64 x0.Next, .int .i64 x0.Flags, .str x0.User, .str x0.Name, .str x0.Text], 0⟩]) rfl rfl ?_
  refine RW.ret ?_
  cases h1
  exact RRet.mk rfl .bool (by first | decide | simp)
 ·have h2 := iteBT hF hb
  refine rl.run 7 rfl (rl.done ?_)
  refine RW.keep [6] (a' := [(6, .bool (x0.Valid == x2))]) (H' := [some ⟨[.int .i64 x0.Kind, .int .i64 x0.Valid, .int .i64 x0.Uid, .int .i64 x0.Next, .int .i64 x0.Flags, .str x0.User, .str x0.Name, .str x0.Text], 0⟩]) rfl rfl ?_
  refine RW.ret ?_
  cases h2
  exact RRet.mk rfl .bool (by first | decide | simp)
theorem law_impl_boxThere_1_w {x0 : TRec} {x1 : Int} {r : Bool} (hF : F_impl_boxThere_1_w x0 x1 = some r) : ACalls Try.prog 1 63 [.agg (enc_TRec false x0), .ptr 0 0] [some ⟨[.int .i64 x1], 0⟩] (.bool r) [some ⟨[.int .i64 x1], 0⟩] := by
 refine ACalls.of_s k_impl_boxThere_1 rfl ?_
 unfold F_impl_boxThere_1_w at hF
 refine RW.sreg (rl.run 2 rfl (rl.done (RW.sreg (rl.run 2 rfl ?_))))
 obtain ⟨v1, e1, h1⟩ := bindS hF
 refine rl.call rfl rfl rfl (CallW.val (r' := .bool v1) ok_impl_about (law_impl_about e1) (.cons (DFL.agg (.cons .int (.cons .int (.cons .int (.cons .int (.cons .int (.cons .str (.cons .str (.cons .str .nil))))))))) (.cons .int (.cons .int .nil))) .refl ?_)
 refine rl.run 1 rfl (rl.done (RW.ret ?_))
 cases h1
 exact RRetS.mk rfl .bool (Gh.renN [0] (.cells rfl rfl (.keep .int .nil) .nil) rfl rfl rfl .nil)
theorem law_impl_bySeq {x0 : TItem} {x1 : TItem} {r : Bool} (hF : F_impl_bySeq x0 x1 = some r) : PCalls Try.prog 65 [.agg (enc_TItem false x0), .agg (enc_TItem false x1)] (.bool r) := by
 refine PCalls.of_r k_impl_bySeq rfl ?_
 unfold F_impl_bySeq at hF
 refine RW.sreg (rl.run 3 rfl (rl.done (RW.sreg (rl.run 6 rfl (rl.done (RW.ret ?_))))))
 cases hF
 exact RRet.mk rfl .bool (by first | decide | simp)
theorem law_impl_latest_boxThere_1_bySeq {x0 : List TItem} {x1 : Int} {r : TItem × Bool} (hF : F_impl_latest_boxThere_1_bySeq x0 x1 = some r) : ACalls Try.prog 1 62 [.lst false 9 (fl (enc_TItem false) x0) x0.length, .fn 63 [.ptr 0 0], .fn 65 []] [some ⟨[.int .i64 x1], 0⟩] (.tup [.agg (enc_TItem true r.1), .bool r.2]) [some ⟨[.int .i64 x1], 0⟩] := by
 refine ACalls.of_s k_impl_latest rfl ?_
 unfold F_impl_latest_boxThere_1_bySeq at hF
 refine RW.sreg (rl.run 2 rfl (rl.done (RW.sreg (rl.run 4 rfl (rl.done (RW.seq (RW.sreg (rl.run 3 rfl (rl.done ?_)))))))))
 obtain ⟨y7, ey7, h2⟩ := bindS hF
 refine RW.cutq (σ := Bool × Int × Int × Int × Int × Int × Int × (List UInt8) × (List UInt8) × (List UInt8)) (fun y2 => [(6, .ptr 1 0), (8, .ptr 2 0), (9, .bool y2.1)]) (fun y2 => [some ⟨[.int .i64 x1], 0⟩, some ⟨[.int .i64 0, .int .i64 0, .int .i64 0, .int .i64 0, .int .i64 0, .int .i64 0, .str [], .str [], .str []], 0⟩, some ⟨[.int .i64 y2.2.1, .int .i64 y2.2.2.1, .int .i64 y2.2.2.2.1, .int .i64 y2.2.2.2.2.1, .int .i64 y2.2.2.2.2.2.1, .int .i64 y2.2.2.2.2.2.2.1, .str y2.2.2.2.2.2.2.2.1, .str y2.2.2.2.2.2.2.2.2.1, .str y2.2.2.2.2.2.2.2.2.2], 0⟩]) (fun y => y7 = y) (fun _ _ _ _ g h => RW.gh g h) ?_ ?_
 ·refine RW.blk ?_
  refine RW.iter (σ := Bool × Int × Int × Int × Int × Int × Int × Int × (List UInt8) × (List UInt8) × (List UInt8)) ey7 (fun s1 => [(1, .fn 63 [.ptr 0 0]), (2, .fn 65 []), (6, .ptr 1 0), (8, .ptr 2 0), (9, .bool s1.1), (13, .lst false 9 (fl (enc_TItem false) x0) x0.length), (14, .int .i64 (x0.length : Int)), (15, .int .i64 s1.2.1)]) (fun s1 => [some ⟨[.int .i64 x1], 0⟩, some ⟨[.int .i64 0, .int .i64 0, .int .i64 0, .int .i64 0, .int .i64 0, .int .i64 0, .str [], .str [], .str []], 0⟩, some ⟨[.int .i64 s1.2.2.1, .int .i64 s1.2.2.2.1, .int .i64 s1.2.2.2.2.1, .int .i64 s1.2.2.2.2.2.1, .int .i64 s1.2.2.2.2.2.2.1, .int .i64 s1.2.2.2.2.2.2.2.1, .str s1.2.2.2.2.2.2.2.2.1, .str s1.2.2.2.2.2.2.2.2.2.1, .str s1.2.2.2.2.2.2.2.2.2.2], 0⟩]) (Gh.renN [0, 1, 2] (.cells rfl rfl (.keep .int .nil) (.cells rfl rfl (.keep .int (.keep .int (.keep .int (.keep .int (.keep .int (.keep .int (.keep .str (.keep .str (.keep .str .nil))))))))) (.cells rfl rfl (.keep .int (.keep .int (.keep .int (.keep .int (.keep .int (.keep .int (.keep .str (.keep .str (.keep .str .nil))))))))) .nil))) rfl rfl rfl (.cons rfl (RnL.fn (.cons (.ptr rfl) .nil)) (.cons rfl (RnL.fn .nil) (.cons rfl (.ptr rfl) (.cons rfl (.ptr rfl) (.cons rfl (.dat .bool) (.cons rfl (.dat (ek_TItem.rlst)) (.cons rfl (.dat .int) (.cons rfl (.dat .int) .nil))))))))) (fun s1 B o hS1 hB1 hE1 => ?_)
  unfold S_impl_latest_boxThere_1_bySeq_1 at hS1
  refine RW.sreg ?_
  refine rl.gen rfl rfl fun b hb => ?_
  cases b
  ·have h3 := iteBF hS1 hb
   refine rl.done (RW.seq (RW.cond_f rfl (RW.exit (blkA_eq ?_))))
   cases h3
   exact ⟨_, (hE1 _ rfl).symm, (Gh.renN [0, 1, 2] (.cells rfl rfl (.keep .int .nil) (.cells rfl rfl (.keep .int (.keep .int (.keep .int (.keep .int (.keep .int (.keep .int (.keep .str (.keep .str (.keep .str .nil))))))))) (.cells rfl rfl (.keep .int (.keep .int (.keep .int (.keep .int (.keep .int (.keep .int (.keep .str (.keep .str (.keep .str .nil))))))))) .nil))) rfl rfl rfl (.cons rfl (.ptr rfl) (.cons rfl (.ptr rfl) (.cons rfl (.dat .bool) .nil))))⟩
  ·have h4 := iteBT hS1 hb
   refine rl.done (RW.seq (RW.cond_t rfl (RW.skip (RW.seq (RW.blk (RW.sreg ?_))))))
   obtain ⟨v3, e3, h5⟩ := bindS h4
   refine rl.op (x_ia_lst (enc := enc_TItem) (o := false) rfl rfl rfl e3) ?_
   refine rl.op (x_ld_ela (off' := 0) (vs := (enc_TItem false v3)) ek_TItem rfl e3 rfl rfl rfl) ?_
   refine rl.run 2 rfl (rl.done (RW.seq ?_))
   obtain ⟨y4, ey4, h6⟩ := bindS h5
   refine RW.cutq (σ := Bool) (fun y4 => [(1, .fn 63 [.ptr 0 0]), (2, .fn 65 []), (6, .ptr 1 0), (8, .ptr 2 0), (9, .bool s1.1), (11, .ptr 3 0), (13, .lst false 9 (fl (enc_TItem false) x0) x0.length), (14, .int .i64 (x0.length : Int)), (15, .int .i64 s1.2.1), (32, .bool y4)]) (fun y4 => [some ⟨[.int .i64 x1], 0⟩, some ⟨[.int .i64 0, .int .i64 0, .int .i64 0, .int .i64 0, .int .i64 0, .int .i64 0, .str [], .str [], .str []], 0⟩, some ⟨[.int .i64 s1.2.2.1, .int .i64 s1.2.2.2.1, .int .i64 s1.2.2.2.2.1, .int .i64 s1.2.2.2.2.2.1, .int .i64 s1.2.2.2.2.2.2.1, .int .i64 s1.2.2.2.2.2.2.2.1, .str s1.2.2.2.2.2.2.2.2.1, .str s1.2.2.2.2.2.2.2.2.2.1, .str s1.2.2.2.2.2.2.2.2.2.2], 0⟩, some ⟨[.int .i64 v3.Seq, .int .i64 v3.Rec.Kind, .int .i64 v3.Rec.Valid, .int .i64 v3.Rec.Uid, .int .i64 v3.Rec.Next, .int .i64 v3.Rec.Flags, .str v3.Rec.User, .str v3.Rec.Name, .str v3.Rec.Text], 0⟩]) (fun y => y4 = y) (fun _ _ _ _ g h => RW.gh g h) ?_ ?_
   ·refine RW.reg ?_
    refine rl.run 3 rfl ?_
    obtain ⟨v5, e5, h7⟩ := bindS ey4
    refine rl.call rfl rfl rfl (CallW.embR [0] ok_impl_boxThere_1 (law_impl_boxThere_1_w e5) (.cells rfl rfl (.keep .int .nil) .nil) rfl rfl (.cons (RnL.agg (.cons (.dat .int) (.cons (.dat .int) (.cons (.dat .int) (.cons (.dat .int) (.cons (.dat .int) (.cons (.dat .str) (.cons (.dat .str) (.cons (.dat .str) .nil))))))))) (.cons (.ptr rfl) .nil)) .bool ?_)
    cases hb : v5
    ·have h8 := iteBF h7 hb
     refine rl.run 10 rfl (rl.done ?_)
     cases h8
     exact ⟨_, rfl, (Gh.renN [0, 1, 2, 3] (.cells rfl rfl (.keep .int .nil) (.cells rfl rfl (.keep .int (.keep .int (.keep .int (.keep .int (.keep .int (.keep .int (.keep .str (.keep .str (.keep .str .nil))))))))) (.cells rfl rfl (.keep .int (.keep .int (.keep .int (.keep .int (.keep .int (.keep .int (.keep .str (.keep .str (.keep .str .nil))))))))) (.cells rfl rfl (.keep .int (.keep .int (.keep .int (.keep .int (.keep .int (.keep .int (.keep .str (.keep .str (.keep .str .nil))))))))) .nil)))) rfl rfl rfl (.cons rfl (RnL.fn (.cons (.ptr rfl) .nil)) (.cons rfl (RnL.fn .nil) (.cons rfl (.ptr rfl) (.cons rfl (.ptr rfl) (.cons rfl (.dat .bool) (.cons rfl (.ptr rfl) (.cons rfl (.dat (ek_TItem.rlst)) (.cons rfl (.dat .int) (.cons rfl (.dat .int) (.cons rfl (.dat .bool) .nil)))))))))))⟩
    ·have h9 := iteBT h7 hb
     refine rl.run 4 rfl ?_
     cases hb : (!s1.1)
     ·have h10 := iteBF h9 hb
      refine rl.run 3 rfl ?_
      obtain ⟨v6, e6, h11⟩ := bindS h10
      refine rl.call rfl rfl rfl (CallW.val (r' := .bool v6) ok_impl_bySeq (law_impl_bySeq e6) (.cons (DFL.agg (.cons .int (.cons .int (.cons .int (.cons .int (.cons .int (.cons .int (.cons .str (.cons .str (.cons .str .nil)))))))))) (.cons (DFL.agg (.cons .int (.cons .int (.cons .int (.cons .int (.cons .int (.cons .int (.cons .str (.cons .str (.cons .str .nil)))))))))) .nil)) .refl ?_)
      cases hb : v6
      ·have h12 := iteBF h11 hb
       refine rl.run 2 rfl (rl.done ?_)
       cases h12
       exact ⟨_, rfl, (Gh.renN [0, 1, 2, 3] (.cells rfl rfl (.keep .int .nil) (.cells rfl rfl (.keep .int (.keep .int (.keep .int (.keep .int (.keep .int (.keep .int (.keep .str (.keep .str (.keep .str .nil))))))))) (.cells rfl rfl (.keep .int (.keep .int (.keep .int (.keep .int (.keep .int (.keep .int (.keep .str (.keep .str (.keep .str .nil))))))))) (.cells rfl rfl (.keep .int (.keep .int (.keep .int (.keep .int (.keep .int (.keep .int (.keep .str (.keep .str (.keep .str .nil))))))))) .nil)))) rfl rfl rfl (.cons rfl (RnL.fn (.cons (.ptr rfl) .nil)) (.cons rfl (RnL.fn .nil) (.cons rfl (.ptr rfl) (.cons rfl (.ptr rfl) (.cons rfl (.dat .bool) (.cons rfl (.ptr rfl) (.cons rfl (.dat (ek_TItem.rlst)) (.cons rfl (.dat .int) (.cons rfl (.dat .int) (.cons rfl (.dat .bool) .nil)))))))))))⟩
      ·have h13 := iteBT h11 hb
       refine rl.run 2 rfl (rl.done ?_)
       cases h13
       exact ⟨_, rfl, (Gh.renN [0, 1, 2, 3] (.cells rfl rfl (.keep .int .nil) (.cells rfl rfl (.keep .int (.keep .int (.keep .int (.keep .int (.keep .int (.keep .int (.keep .str (.keep .str (.keep .str .nil))))))))) (.cells rfl rfl (.keep .int (.keep .int (.keep .int (.keep .int (.keep .int (.keep .int (.keep .str (.keep .str (.keep .str .nil))))))))) (.cells rfl rfl (.keep .int (.keep .int (.keep .int (.keep .int (.keep .int (.keep .int (.keep .str (.keep .str (.keep .str .nil))))))))) .nil)))) rfl rfl rfl (.cons rfl (RnL.fn (.cons (.ptr rfl) .nil)) (.cons rfl (RnL.fn .nil) (.cons rfl (.ptr rfl) (.cons rfl (.ptr rfl) (.cons rfl (.dat .bool) (.cons rfl (.ptr rfl) (.cons rfl (.dat (ek_TItem.rlst)) (.cons rfl (.dat .int) (.cons rfl (.dat .int) (.cons rfl (.dat .bool) .nil)))))))))))⟩
     ·have h14 := iteBT h9 hb
      refine rl.run 6 rfl (rl.done ?_)
      cases h14
      exact ⟨_, rfl, (Gh.renN [0, 1, 2, 3] (.cells rfl rfl (.keep .int .nil) (.cells rfl rfl (.keep .int (.keep .int (.keep .int (.keep .int (.keep .int (.keep .int (.keep .str (.keep .str (.keep .str .nil))))))))) (.cells rfl rfl (.keep .int (.keep .int (.keep .int (.keep .int (.keep .int (.keep .int (.keep .str (.keep .str (.keep .str .nil))))))))) (.cells rfl rfl (.keep .int (.keep .int (.keep .int (.keep .int (.keep .int (.keep .int (.keep .str (.keep .str (.keep .str .nil))))))))) .nil)))) rfl rfl rfl (.cons rfl (RnL.fn (.cons (.ptr rfl) .nil)) (.cons rfl (RnL.fn .nil) (.cons rfl (.ptr rfl) (.cons rfl (.ptr rfl) (.cons rfl (.dat .bool) (.cons rfl (.ptr rfl) (.cons rfl (.dat (ek_TItem.rlst)) (.cons rfl (.dat .int) (.cons rfl (.dat .int) (.cons rfl (.dat .bool) .nil)))))))))))⟩
   ·intro y hC
    subst hC
    cases hb : y4
    ·have h15 := iteBF h6 hb
     refine RW.cond_f rfl (RW.skip (RW.reg (rl.run 2 rfl (rl.done ?_))))
     cases h15
     exact hB1 _ rfl _ _ (Gh.renN [0, 1, 2] (.cells rfl rfl (.keep .int .nil) (.cells rfl rfl (.keep .int (.keep .int (.keep .int (.keep .int (.keep .int (.keep .int (.keep .str (.keep .str (.keep .str .nil))))))))) (.cells rfl rfl (.keep .int (.keep .int (.keep .int (.keep .int (.keep .int (.keep .int (.keep .str (.keep .str (.keep .str .nil))))))))) .nil))) rfl rfl rfl (.cons rfl (RnL.fn (.cons (.ptr rfl) .nil)) (.cons rfl (RnL.fn .nil) (.cons rfl (.ptr rfl) (.cons rfl (.ptr rfl) (.cons rfl (.dat .bool) (.cons rfl (.dat (ek_TItem.rlst)) (.cons rfl (.dat .int) (.cons rfl (.dat .int) .nil)))))))))
    ·have h16 := iteBT h6 hb
     refine RW.cond_t rfl (RW.reg (rl.run 3 rfl (rl.done (RW.reg (rl.run 2 rfl (rl.done ?_))))))
     cases h16
     exact hB1 _ rfl _ _ (Gh.renN [0, 1, 2] (.cells rfl rfl (.keep .int .nil) (.cells rfl rfl (.keep .int (.keep .int (.keep .int (.keep .int (.keep .int (.keep .int (.keep .str (.keep .str (.keep .str .nil))))))))) (.cells rfl rfl (.keep .int (.keep .int (.keep .int (.keep .int (.keep .int (.keep .int (.keep .str (.keep .str (.keep .str .nil))))))))) .nil))) rfl rfl rfl (.cons rfl (RnL.fn (.cons (.ptr rfl) .nil)) (.cons rfl (RnL.fn .nil) (.cons rfl (.ptr rfl) (.cons rfl (.ptr rfl) (.cons rfl (.dat .bool) (.cons rfl (.dat (ek_TItem.rlst)) (.cons rfl (.dat .int) (.cons rfl (.dat .int) .nil)))))))))
 ·intro y2 hC
  subst hC
  refine RW.sreg (rl.run 4 rfl (rl.done (RW.ret ?_)))
  cases h2
  exact RRetS.mk rfl (.tup (fac (.agg (sc_TItem _ _)) (fac .bool fan))) (Gh.renN [0] (.cells rfl rfl (.keep .int .nil) .nil) rfl rfl rfl .nil)
theorem law_impl_boxThere_2_w {x0 : TRec} {x1 : Int} {r : Bool} (hF : F_impl_boxThere_2_w x0 x1 = some r) : ACalls Try.prog 1 66 [.agg (enc_TRec false x0), .ptr 0 0] [some ⟨[.int .i64 x1], 0⟩] (.bool r) [some ⟨[.int .i64 x1], 0⟩] := by
 refine ACalls.of_s k_impl_boxThere_2 rfl ?_
 unfold F_impl_boxThere_2_w at hF
 refine RW.sreg (rl.run 2 rfl (rl.done (RW.sreg (rl.run 2 rfl ?_))))
 obtain ⟨v1, e1, h1⟩ := bindS hF
 refine rl.call rfl rfl rfl (CallW.val (r' := .bool v1) ok_impl_about (law_impl_about e1) (.cons (DFL.agg (.cons .int (.cons .int (.cons .int (.cons .int (.cons .int (.cons .str (.cons .str (.cons .str .nil))))))))) (.cons .int (.cons .int .nil))) .refl ?_)
 refine rl.run 1 rfl (rl.done (RW.ret ?_))
 cases h1
 exact RRetS.mk rfl .bool (Gh.renN [0] (.cells rfl rfl (.keep .int .nil) .nil) rfl rfl rfl .nil)
theorem law_impl_byNext {x0 : TItem} {x1 : TItem} {r : Bool} (hF : F_impl_byNext x0 x1 = some r) : PCalls Try.prog 67 [.agg (enc_TItem false x0), .agg (enc_TItem false x1)] (.bool r) := by
 refine PCalls.of_r k_impl_byNext rfl ?_
 unfold F_impl_byNext at hF
 refine RW.sreg (rl.run 3 rfl (rl.done (RW.seq (RW.sreg (rl.run 6 rfl ?_)))))
 refine rl.gen rfl rfl fun b hb => ?_
 cases b
 ·have h1 := iteBF hF hb
  refine rl.done (RW.cond_f rfl (RW.skip (RW.sreg (rl.run 6 rfl (rl.done ?_)))))
  refine RW.keep [4] (a' := [(4, .bool (decide (x0.Seq < x1.Seq)))]) (H' := [some ⟨[.int .i64 x0.Seq, .int .i64 x0.Rec.Kind, .int .i64 x0.Rec.Valid, .int .i64 x0.Rec.Uid, .int .i64 x0.Rec.Next, .int .i64 x0.Rec.Flags, .str x0.Rec.User, .str x0.Rec.Name, .str x0.Rec.Text], 0⟩, some ⟨[.int .i64 x1.Seq, .int .i64 x1.Rec.Kind, .int .i64 x1.Rec.Valid, .int .i64 x1.Rec.Uid, .int .i64 x1.Rec.Next, .int .i64 x1.Rec.Flags, .str x1.Rec.User, .str x1.Rec.Name, .str x1.Rec.Text], 0⟩]) rfl rfl ?_
  refine RW.ret ?_
  cases h1
  exact RRet.mk rfl .bool (by first | decide | simp)
 ·have h2 := iteBT hF hb
  refine rl.done (RW.cond_t rfl (RW.sreg (rl.run 8 rfl (rl.done ?_))))
  refine RW.keep [4] (a' := [(4, .bool (decide (x0.Rec.Next < x1.Rec.Next)))]) (H' := [some ⟨[.int .i64 x0.Seq, .int .i64 x0.Rec.Kind, .int .i64 x0.Rec.Valid, .int .i64 x0.Rec.Uid, .int .i64 x0.Rec.Next, .int .i64 x0.Rec.Flags, .str x0.Rec.User, .str x0.Rec.Name, .str x0.Rec.Text], 0⟩, some ⟨[.int .i64 x1.Seq, .int .i64 x1.Rec.Kind, .int .i64 x1.Rec.Valid, .int .i64 x1.Rec.Uid, .int .i64 x1.Rec.Next, .int .i64 x1.Rec.Flags, .str x1.Rec.User, .str x1.Rec.Name, .str x1.Rec.Text], 0⟩]) rfl rfl ?_
  refine RW.ret ?_
  cases h2
  exact RRet.mk rfl .bool (by first | decide | simp)
theorem law_impl_latest_boxThere_2_byNext {x0 : List TItem} {x1 : Int} {r : TItem × Bool} (hF : F_impl_latest_boxThere_2_byNext x0 x1 = some r) : ACalls Try.prog 1 62 [.lst false 9 (fl (enc_TItem false) x0) x0.length, .fn 66 [.ptr 0 0], .fn 67 []] [some ⟨[.int .i64 x1], 0⟩] (.tup [.agg (enc_TItem true r.1), .bool r.2]) [some ⟨[.int .i64 x1], 0⟩] := by
 refine ACalls.of_s k_impl_latest rfl ?_
 unfold F_impl_latest_boxThere_2_byNext at hF
 refine RW.sreg (rl.run 2 rfl (rl.done (RW.sreg (rl.run 4 rfl (rl.done (RW.seq (RW.sreg (rl.run 3 rfl (rl.done ?_)))))))))
 obtain ⟨y7, ey7, h2⟩ := bindS hF
 refine RW.cutq (σ := Bool × Int × Int × Int × Int × Int × Int × (List UInt8) × (List UInt8) × (List UInt8)) (fun y2 => [(6, .ptr 1 0), (8, .ptr 2 0), (9, .bool y2.1)]) (fun y2 => [some ⟨[.int .i64 x1], 0⟩, some ⟨[.int .i64 0, .int .i64 0, .int .i64 0, .int .i64 0, .int .i64 0, .int .i64 0, .str [], .str [], .str []], 0⟩, some ⟨[.int .i64 y2.2.1, .int .i64 y2.2.2.1, .int .i64 y2.2.2.2.1, .int .i64 y2.2.2.2.2.1, .int .i64 y2.2.2.2.2.2.1, .int .i64 y2.2.2.2.2.2.2.1, .str y2.2.2.2.2.2.2.2.1, .str y2.2.2.2.2.2.2.2.2.1, .str y2.2.2.2.2.2.2.2.2.2], 0⟩]) (fun y => y7 = y) (fun _ _ _ _ g h => RW.gh g h) ?_ ?_
 ·refine RW.blk ?_
  refine RW.iter (σ := Bool × Int × Int × Int × Int × Int × Int × Int × (List UInt8) × (List UInt8) × (List UInt8)) ey7 (fun s1 => [(1, .fn 66 [.ptr 0 0]), (2, .fn 67 []), (6, .ptr 1 0), (8, .ptr 2 0), (9, .bool s1.1), (13, .lst false 9 (fl (enc_TItem false) x0) x0.length), (14, .int .i64 (x0.length : Int)), (15, .int .i64 s1.2.1)]) (fun s1 => [some ⟨[.int .i64 x1], 0⟩, some ⟨[.int .i64 0, .int .i64 0, .int .i64 0, .int .i64 0, .int .i64 0, .int .i64 0, .str [], .str [], .str []], 0⟩, some ⟨[.int .i64 s1.2.2.1, .int .i64 s1.2.2.2.1, .int .i64 s1.2.2.2.2.1, .int .i64 s1.2.2.2.2.2.1, .int .i64 s1.2.2.2.2.2.2.1, .int .i64 s1.2.2.2.2.2.2.2.1, .str s1.2.2.2.2.2.2.2.2.1, .str s1.2.2.2.2.2.2.2.2.2.1, .str s1.2.2.2.2.2.2.2.2.2.2], 0⟩]) (Gh.renN [0, 1, 2] (.cells rfl rfl (.keep .int .nil) (.cells rfl rfl (.keep .int (.keep .int (.keep .int (.keep .int (.keep .int (.keep .int (.keep .str (.keep .str (.keep .str .nil))))))))) (.cells rfl rfl (.keep .int (.keep .int (.keep .int (.keep .int (.keep .int (.keep .int (.keep .str (.keep .str (.keep .str .nil))))))))) .nil))) rfl rfl rfl (.cons rfl (RnL.fn (.cons (.ptr rfl) .nil)) (.cons rfl (RnL.fn .nil) (.cons rfl (.ptr rfl) (.cons rfl (.ptr rfl) (.cons rfl (.dat .bool) (.cons rfl (.dat (ek_TItem.rlst)) (.cons rfl (.dat .int) (.cons rfl (.dat .int) .nil))))))))) (fun s1 B o hS1 hB1 hE1 => ?_)
  unfold S_impl_latest_boxThere_2_byNext_1 at hS1
  refine RW.sreg ?_
  refine rl.gen rfl rfl fun b hb => ?_
  cases b
  ·have h3 := iteBF hS1 hb
   refine rl.done (RW.seq (RW.cond_f rfl (RW.exit (blkA_eq ?_))))
   cases h3
   exact ⟨_, (hE1 _ rfl).symm, (Gh.renN [0, 1, 2] (.cells rfl rfl (.keep .int .nil) (.cells rfl rfl (.keep .int (.keep .int (.keep .int (.keep .int (.keep .int (.keep .int (.keep .str (.keep .str (.keep .str .nil))))))))) (.cells rfl rfl (.keep .int (.keep .int (.keep .int (.keep .int (.keep .int (.keep .int (.keep .str (.keep .str (.keep .str .nil))))))))) .nil))) rfl rfl rfl (.cons rfl (.ptr rfl) (.cons rfl (.ptr rfl) (.cons rfl (.dat .bool) .nil))))⟩
  ·have h4 := iteBT hS1 hb
   refine rl.done (RW.seq (RW.cond_t rfl (RW.skip (RW.seq (RW.blk (RW.sreg ?_))))))
   obtain ⟨v3, e3, h5⟩ := bindS h4
   refine rl.op (x_ia_lst (enc := enc_TItem) (o := false) rfl rfl rfl e3) ?_
   refine rl.op (x_ld_ela (off' := 0) (vs := (enc_TItem false v3)) ek_TItem rfl e3 rfl rfl rfl) ?_
   refine rl.run 2 rfl (rl.done (RW.seq ?_))
   obtain ⟨y4, ey4, h6⟩ := bindS h5
   refine RW.cutq (σ := Bool) (fun y4 => [(1, .fn 66 [.ptr 0 0]), (2, .fn 67 []), (6, .ptr 1 0), (8, .ptr 2 0), (9, .bool s1.1), (11, .ptr 3 0), (13, .lst false 9 (fl (enc_TItem false) x0) x0.length), (14, .int .i64 (x0.length : Int)), (15, .int .i64 s1.2.1), (32, .bool y4)]) (fun y4 => [some ⟨[.int .i64 x1], 0⟩, some ⟨[.int .i64 0, .int .i64 0, .int .i64 0, .int .i64 0, .int .i64 0, .int .i64 0, .str [], .str [], .str []], 0⟩, some ⟨[.int .i64 s1.2.2.1, .int .i64 s1.2.2.2.1, .int .i64 s1.2.2.2.2.1, .int .i64 s1.2.2.2.2.2.1, .int .i64 s1.2.2.2.2.2.2.1, .int .i64 s1.2.2.2.2.2.2.2.1, .str s1.2.2.2.2.2.2.2.2.1, .str s1.2.2.2.2.2.2.2.2.2.1, .str s1.2.2.2.2.2.2.2.2.2.2], 0⟩, some ⟨[.int .i64 v3.Seq, .int .i64 v3.Rec.Kind, .int .i64 v3.Rec.Valid, .int .i64 v3.Rec.Uid, .int .i64 v3.Rec.Next, .int .i64 v3.Rec.Flags, .str v3.Rec.User, .str v3.Rec.Name, .str v3.Rec.Text], 0⟩]) (fun y => y4 = y) (fun _ _ _ _ g h => RW.gh g h) ?_ ?_
   ·refine RW.reg ?_
    refine rl.run 3 rfl ?_
    obtain ⟨v5, e5, h7⟩ := bindS ey4
    refine rl.call rfl rfl rfl (CallW.embR [0] ok_impl_boxThere_2 (law_impl_boxThere_2_w e5) (.cells rfl rfl (.keep .int .nil) .nil) rfl rfl (.cons (RnL.agg (.cons (.dat .int) (.cons (.dat .int) (.cons (.dat .int) (.cons (.dat .int) (.cons (.dat .int) (.cons (.dat .str) (.cons (.dat .str) (.cons (.dat .str) .nil))))))))) (.cons (.ptr rfl) .nil)) .bool ?_)
    cases hb : v5
    ·have h8 := iteBF h7 hb
     refine rl.run 10 rfl (rl.done ?_)
     cases h8
     exact ⟨_, rfl, (Gh.renN [0, 1, 2, 3] (.cells rfl rfl (.keep .int .nil) (.cells rfl rfl (.keep .int (.keep .int (.keep .int (.keep .int (.keep .int (.keep .int (.keep .str (.keep .str (.keep .str .nil))))))))) (.cells rfl rfl (.keep .int (.keep .int (.keep .int (.keep .int (.keep .int (.keep .int (.keep .str (.keep .str (.keep .str .nil))))))))) (.cells rfl rfl (.keep .int (.keep .int (.keep .int (.keep .int (.keep .int (.keep .int (.keep .str (.keep .str (.keep .str .nil))))))))) .nil)))) rfl rfl rfl (.cons rfl (RnL.fn (.cons (.ptr rfl) .nil)) (.cons rfl (RnL.fn .nil) (.cons rfl (.ptr rfl) (.cons rfl (.ptr rfl) (.cons rfl (.dat .bool) (.cons rfl (.ptr rfl) (.cons rfl (.dat (ek_TItem.rlst)) (.cons rfl (.dat .int) (.cons rfl (.dat .int) (.cons rfl (.dat .bool) .nil)))))))))))⟩
    ·have h9 := iteBT h7 hb
     refine rl.run 4 rfl ?_
     cases hb : (!s1.1)
     ·have h10 := iteBF h9 hb
      refine rl.run 3 rfl ?_
      obtain ⟨v6, e6, h11⟩ := bindS h10
      refine rl.call rfl rfl rfl (CallW.val (r' := .bool v6) ok_impl_byNext (law_impl_byNext e6) (.cons (DFL.agg (.cons .int (.cons .int (.cons .int (.cons .int (.cons .int (.cons .int (.cons .str (.cons .str (.cons .str .nil)))))))))) (.cons (DFL.agg (.cons .int (.cons .int (.cons .int (.cons .int (.cons .int (.cons .int (.cons .str (.cons .str (.cons .str .nil)))))))))) .nil)) .refl ?_)
      cases hb : v6
      ·have h12 := iteBF h11 hb
       refine rl.run 2 rfl (rl.done ?_)
       cases h12
       exact ⟨_, rfl, (Gh.renN [0, 1, 2, 3] (.cells rfl rfl (.keep .int .nil) (.cells rfl rfl (.keep .int (.keep .int (.keep .int (.keep .int (.keep .int (.keep .int (.keep .str (.keep .str (.keep .str .nil))))))))) (.cells rfl rfl (.keep .int (.keep .int (.keep .int (.keep .int (.keep .int (.keep .int (.keep .str (.keep .str (.keep .str .nil))))))))) (.cells rfl rfl (.keep .int (.keep .int (.keep .int (.keep .int (.keep .int (.keep .int (.keep .str (.keep .str (.keep .str .nil))))))))) .nil)))) rfl rfl rfl (.cons rfl (RnL.fn (.cons (.ptr rfl) .nil)) (.cons rfl (RnL.fn .nil) (.cons rfl (.ptr rfl) (.cons rfl (.ptr rfl) (.cons rfl (.dat .bool) (.cons rfl (.ptr rfl) (.cons rfl (.dat (ek_TItem.rlst)) (.cons rfl (.dat .int) (.cons rfl (.dat .int) (.cons rfl (.dat .bool) .nil)))))))))))⟩
      ·have h13 := iteBT h11 hb
       refine rl.run 2 rfl (rl.done ?_)
       cases h13
       exact ⟨_, rfl, (Gh.renN [0, 1, 2, 3] (.cells rfl rfl (.keep .int .nil) (.cells rfl rfl (.keep .int (.keep .int (.keep .int (.keep .int (.keep .int (.keep .int (.keep .str (.keep .str (.keep .str .nil))))))))) (.cells rfl rfl (.keep .int (.keep .int (.keep .int (.keep .int (.keep .int (.keep .int (.keep .str (.keep .str (.keep .str .nil))))))))) (.cells rfl rfl (.keep .int (.keep .int (.keep .int (.keep .int (.keep .int (.keep .int (.keep .str (.keep .str (.keep .str .nil))))))))) .nil)))) rfl rfl rfl (.cons rfl (RnL.fn (.cons (.ptr rfl) .nil)) (.cons rfl (RnL.fn .nil) (.cons rfl (.ptr rfl) (.cons rfl (.ptr rfl) (.cons rfl (.dat .bool) (.cons rfl (.ptr rfl) (.cons rfl (.dat (ek_TItem.rlst)) (.cons rfl (.dat .int) (.cons rfl (.dat .int) (.cons rfl (.dat .bool) .nil)))))))))))⟩
     ·have h14 := iteBT h9 hb
      refine rl.run 6 rfl (rl.done ?_)
      cases h14
      exact ⟨_, rfl, (Gh.renN [0, 1, 2, 3] (.cells rfl rfl (.keep .int .nil) (.cells rfl rfl (.keep .int (.keep .int (.keep .int (.keep .int (.keep .int (.keep .int (.keep .str (.keep .str (.keep .str .nil))))))))) (.cells rfl rfl (.keep .int (.keep .int (.keep .int (.keep .int (.keep .int (.keep .int (.keep .str (.keep .str (.keep .str .nil))))))))) (.cells rfl rfl (.keep .int (.keep .int (.keep .int (.keep .int (.keep .int (.keep .int (.keep .str (.keep .str (.keep .str .nil))))))))) .nil)))) rfl rfl rfl (.cons rfl (RnL.fn (.cons (.ptr rfl) .nil)) (.cons rfl (RnL.fn .nil) (.cons rfl (.ptr rfl) (.cons rfl (.ptr rfl) (.cons rfl (.dat .bool) (.cons rfl (.ptr rfl) (.cons rfl (.dat (ek_TItem.rlst)) (.cons rfl (.dat .int) (.cons rfl (.dat .int) (.cons rfl (.dat .bool) .nil)))))))))))⟩
   ·intro y hC
    subst hC
    cases hb : y4
    ·have h15 := iteBF h6 hb
     refine RW.cond_f rfl (RW.skip (RW.reg (rl.run 2 rfl (rl.done ?_))))
     cases h15
     exact hB1 _ rfl _ _ (Gh.renN [0, 1, 2] (.cells rfl rfl (.keep .int .nil) (.cells rfl rfl (.keep .int (.keep .int (.keep .int (.keep .int (.keep .int (.keep .int (.keep .str (.keep .str (.keep .str .nil))))))))) (.cells rfl rfl (.keep .int (.keep .int (.keep .int (.keep .int (.keep .int (.keep .int (.keep .str (.keep .str (.keep .str .nil))))))))) .nil))) rfl rfl rfl (.cons rfl (RnL.fn (.cons (.ptr rfl) .nil)) (.cons rfl (RnL.fn .nil) (.cons rfl (.ptr rfl) (.cons rfl (.ptr rfl) (.cons rfl (.dat .bool) (.cons rfl (.dat (ek_TItem.rlst)) (.cons rfl (.dat .int) (.cons rfl (.dat .int) .nil)))))))))
    ·have h16 := iteBT h6 hb
     refine RW.cond_t rfl (RW.reg (rl.run 3 rfl (rl.done (RW.reg (rl.run 2 rfl (rl.done ?_))))))
     cases h16
     exact hB1 _ rfl _ _ (Gh.renN [0, 1, 2] (.cells rfl rfl (.keep .int .nil) (.cells rfl rfl (.keep .int (.keep .int (.keep .int (.keep .int (.keep .int (.keep .int (.keep .str (.keep .str (.keep .str .nil))))))))) (.cells rfl rfl (.keep .int (.keep .int (.keep .int (.keep .int (.keep .int (.keep .int (.keep .str (.keep .str (.keep .str .nil))))))))) .nil))) rfl rfl rfl (.cons rfl (RnL.fn (.cons (.ptr rfl) .nil)) (.cons rfl (RnL.fn .nil) (.cons rfl (.ptr rfl) (.cons rfl (.ptr rfl) (.cons rfl (.dat .bool) (.cons rfl (.dat (ek_TItem.rlst)) (.cons rfl (.dat .int) (.cons rfl (.dat .int) .nil)))))))))
 ·intro y2 hC
  subst hC
  refine RW.sreg (rl.run 4 rfl (rl.done (RW.ret ?_)))
  cases h2
  exact RRetS.mk rfl (.tup (fac (.agg (sc_TItem _ _)) (fac .bool fan))) (Gh.renN [0] (.cells rfl rfl (.keep .int .nil) .nil) rfl rfl rfl .nil)
theorem law_impl_boxThere {x0 : List TItem} {x1 : Int} {r : TItem × Bool} (hF : F_impl_boxThere x0 x1 = some r) : PCalls Try.prog 37 [.lst false 9 (fl (enc_TItem false) x0) x0.length, .int .i64 x1] (.tup [.agg (enc_TItem true r.1), .bool r.2]) := by
 refine PCalls.of_r k_impl_boxThere rfl ?_
 unfold F_impl_boxThere at hF
 refine RW.sreg (rl.run 3 rfl (rl.done (RW.seq (RW.sreg (rl.run 2 rfl ?_)))))
 obtain ⟨v1, e1, h1⟩ := bindS hF
 refine rl.call rfl rfl rfl (CallW.embR [0] ok_impl_latest (law_impl_latest_boxThere_1_bySeq e1) (.cells rfl rfl (.keep .int .nil) .nil) rfl rfl (.cons (.dat (ek_TItem.rlst)) (.cons (RnL.fn (.cons (.ptr rfl) .nil)) (.cons (RnL.fn .nil) .nil))) (.tup (fac (.agg (sc_TItem _ _)) (fac .bool fan))) ?_)
 refine rl.run 6 rfl (rl.done (RW.sreg (rl.run 1 rfl (rl.done ?_))))
 cases hb : v1.2
 ·have h2 := iteBF h1 hb
  refine RW.cond_f rfl (RW.skip (RW.sreg (rl.run 2 rfl ?_)))
  obtain ⟨v2, e2, h3⟩ := bindS h2
  refine rl.call rfl rfl rfl (CallW.embR [0] ok_impl_latest (law_impl_latest_boxThere_2_byNext e2) (.cells rfl rfl (.keep .int .nil) .nil) rfl rfl (.cons (.dat (ek_TItem.rlst)) (.cons (RnL.fn (.cons (.ptr rfl) .nil)) (.cons (RnL.fn .nil) .nil))) (.tup (fac (.agg (sc_TItem _ _)) (fac .bool fan))) ?_)
  refine rl.run 4 rfl (rl.done ?_)
  refine RW.keep [4, 5] (a' := [(4, .ptr 1 0), (5, .bool v2.2)]) (H' := [some ⟨[.int .i64 x1], 0⟩, some ⟨[.int .i64 v2.1.Seq, .int .i64 v2.1.Rec.Kind, .int .i64 v2.1.Rec.Valid, .int .i64 v2.1.Rec.Uid, .int .i64 v2.1.Rec.Next, .int .i64 v2.1.Rec.Flags, .str v2.1.Rec.User, .str v2.1.Rec.Name, .str v2.1.Rec.Text], 0⟩, some ⟨[.int .i64 v1.1.Seq, .int .i64 v1.1.Rec.Kind, .int .i64 v1.1.Rec.Valid, .int .i64 v1.1.Rec.Uid, .int .i64 v1.1.Rec.Next, .int .i64 v1.1.Rec.Flags, .str v1.1.Rec.User, .str v1.1.Rec.Name, .str v1.1.Rec.Text], 0⟩]) rfl rfl ?_
  refine RW.ret ?_
  cases h3
  exact RRet.mk rfl (OutT.tup (.cons (OutL.agg (.cons .int rfl (.cons .int rfl (.cons .int rfl (.cons .int rfl (.cons .int rfl (.cons .int rfl (.cons .str rfl (.cons .str rfl (.cons .str rfl .nil)))))))))) (.cons .bool .nil))) (by first | decide | simp)
 ·have h4 := iteBT h1 hb
  refine RW.cond_t rfl (RW.sreg (rl.run 3 rfl (rl.done ?_)))
  refine RW.keep [4, 5] (a' := [(4, .ptr 1 0), (5, .bool false)]) (H' := [some ⟨[.int .i64 x1], 0⟩, some ⟨[.int .i64 0, .int .i64 0, .int .i64 0, .int .i64 0, .int .i64 0, .int .i64 0, .str [], .str [], .str []], 0⟩, some ⟨[.int .i64 v1.1.Seq, .int .i64 v1.1.Rec.Kind, .int .i64 v1.1.Rec.Valid, .int .i64 v1.1.Rec.Uid, .int .i64 v1.1.Rec.Next, .int .i64 v1.1.Rec.Flags, .str v1.1.Rec.User, .str v1.1.Rec.Name, .str v1.1.Rec.Text], 0⟩]) rfl rfl ?_
  refine RW.ret ?_
  cases h4
  exact RRet.mk rfl (OutT.tup (.cons (OutL.agg (.cons .int rfl (.cons .int rfl (.cons .int rfl (.cons .int rfl (.cons .int rfl (.cons .int rfl (.cons .str rfl (.cons .str rfl (.cons .str rfl .nil)))))))))) (.cons .bool .nil))) (by first | decide | simp)
theorem law_impl_boxState_1_w {x0 : TRec} {x1c0 : Int} {r : Int × Bool} (hF : F_impl_boxState_1_w x0 x1c0 = some r) : PCalls Try.prog 68 [.agg (enc_TRec false x0), .el [.int .i64 x1c0] 0] (.tup [.int .i64 r.1, .bool r.2]) := by
 refine PCalls.of_r k_impl_boxState_1 rfl ?_
 unfold F_impl_boxState_1_w at hF
 refine RW.sreg (rl.run 3 rfl (rl.done (RW.sdrw (rdraw.op rfl rfl (rdraw.op rfl rfl (rdraw.op rfl rfl (rdraw.op rfl rfl ?_)))))))
 obtain ⟨v1, e1, h1⟩ := bindS hF
 refine rdraw.call rfl rfl rfl (CallW.val (r' := .bool v1) ok_impl_about (law_impl_about e1) (.cons (DFL.agg (.cons .int (.cons .int (.cons .int (.cons .int (.cons .int (.cons .str (.cons .str (.cons .str .nil))))))))) (.cons .int (.cons .int .nil))) .refl ⟨rfl, ?_⟩)
 cases hb : v1
 ·have h2 := iteBF h1 hb
  refine rdraw.op rfl rfl (rdraw.op rfl rfl (rdraw.op rfl rfl ?_))
  obtain ⟨v2, e2, h3⟩ := bindS h2
  refine rdraw.call rfl rfl rfl (CallW.val (r' := .bool v2) ok_impl_about (law_impl_about e2) (.cons (DFL.agg (.cons .int (.cons .int (.cons .int (.cons .int (.cons .int (.cons .str (.cons .str (.cons .str .nil))))))))) (.cons .int (.cons .int .nil))) .refl ⟨rfl, ?_⟩)
  refine rdraw.op rfl rfl (rdraw.op rfl rfl (rdraw.op rfl rfl (rdraw.done ?_)))
  refine RW.keep [3, 4] (a' := [(3, .int .i64 x0.Uid), (4, .bool v2)]) (H' := [some ⟨[.int .i64 x0.Kind, .int .i64 x0.Valid, .int .i64 x0.Uid, .int .i64 x0.Next, .int .i64 x0.Flags, .str x0.User, .str x0.Name, .str x0.Text], 0⟩]) rfl rfl ?_
  refine RW.ret ?_
  cases h3
  exact RRet.mk rfl (OutT.tup (.cons .int (.cons .bool .nil))) (by first | decide | simp)
 ·have h4 := iteBT h1 hb
  refine rdraw.op rfl rfl (rdraw.off rfl (rdraw.off rfl (rdraw.off rfl (rdraw.op rfl rfl (rdraw.op rfl rfl (rdraw.op rfl rfl (rdraw.done ?_)))))))
  refine RW.keep [3, 4] (a' := [(3, .int .i64 x0.Uid), (4, .bool true)]) (H' := [some ⟨[.int .i64 x0.Kind, .int .i64 x0.Valid, .int .i64 x0.Uid, .int .i64 x0.Next, .int .i64 x0.Flags, .str x0.User, .str x0.Name, .str x0.Text], 0⟩]) rfl rfl ?_
  refine RW.ret ?_
  cases h4
  exact RRet.mk rfl (OutT.tup (.cons .int (.cons .bool .nil))) (by first | decide | simp)
theorem law_impl_numbers_boxState_1 {x0 : List TItem} {x1ac0 : Int} {r : List Int} (hF : F_impl_numbers_boxState_1 x0 x1ac0 = some r) : PCalls Try.prog 35 [.lst false 9 (fl (enc_TItem false) x0) x0.length, .fn 68 [.el [.int .i64 x1ac0] 0]] (.lst true 1 (fl (encI true) r) r.length) := by
 refine PCalls.of_r k_impl_numbers rfl ?_
 unfold F_impl_numbers_boxState_1 at hF
 refine RW.sreg (rl.run 1 rfl (rl.done (RW.sreg (rl.run 2 rfl (rl.done (RW.seq (RW.sreg (rl.run 3 rfl (rl.done ?_)))))))))
 refine RW.gh (Gh.nil_t 5 1 rfl) ?_
 obtain ⟨y6, ey6, h2⟩ := bindS hF
 refine RW.cutq (σ := (List Int)) (fun y2 => [(5, .sl 0 0 y2.length)]) (fun y2 => [some ⟨fl (encI true) y2, 1⟩]) (fun y => y6 = y) (fun _ _ _ _ g h => RW.gh g h) ?_ ?_
 ·refine RW.blk ?_
  refine RW.iter (σ := Int × (List Int)) ey6 (fun s1 => [(1, .fn 68 [.el [.int .i64 x1ac0] 0]), (5, .sl 0 0 s1.2.length), (11, .lst false 9 (fl (enc_TItem false) x0) x0.length), (12, .int .i64 (x0.length : Int)), (13, .int .i64 s1.1)]) (fun s1 => [some ⟨fl (encI true) s1.2, 1⟩]) (Gh.ren0 [0] (.same rfl (ekI.fref _ _) .nil) rfl (.cons rfl (RnL.fn (.cons (.dat (.el (fac .int fan))) .nil)) (.cons rfl (.slq rfl rfl) (.cons rfl (.dat (ek_TItem.rlst)) (.cons rfl (.dat .int) (.cons rfl (.dat .int) .nil)))))) (fun s1 B o hS1 hB1 hE1 => ?_)
  unfold S_impl_numbers_boxState_1_1 at hS1
  refine RW.sreg ?_
  refine rl.gen rfl rfl fun b hb => ?_
  cases b
  ·have h3 := iteBF hS1 hb
   refine rl.done (RW.seq (RW.cond_f rfl (RW.exit (blkA_eq ?_))))
   cases h3
   exact ⟨_, (hE1 _ rfl).symm, (Gh.ren0 [0] (.same rfl (ekI.fref _ _) .nil) rfl (.cons rfl (.slq rfl rfl) .nil))⟩
  ·have h4 := iteBT hS1 hb
   refine rl.done (RW.seq (RW.cond_t rfl (RW.skip (RW.seq (RW.blk (RW.sreg ?_))))))
   obtain ⟨v3, e3, h5⟩ := bindS h4
   refine rl.op (x_ia_lst (enc := enc_TItem) (o := false) rfl rfl rfl e3) ?_
   refine rl.op (x_ld_ela (off' := 0) (vs := (enc_TItem false v3)) ek_TItem rfl e3 rfl rfl rfl) ?_
   refine rl.run 2 rfl (rl.done (RW.sreg (rl.run 3 rfl ?_)))
   obtain ⟨v4, e4, h6⟩ := bindS h5
   refine rl.call rfl rfl rfl (CallW.valS (r' := .tup [.int .i64 v4.1, .bool v4.2]) ok_impl_boxState_1 (law_impl_boxState_1_w e4) (.cons (.of (DFL.agg (.cons .int (.cons .int (.cons .int (.cons .int (.cons .int (.cons .str (.cons .str (.cons .str .nil)))))))))) (.cons (DS.el (fac .int fan)) .nil)) (FlL.tup (.cons .refl (.cons .refl .nil))) ?_)
   refine rl.run 5 rfl (rl.done ?_)
   refine RW.keep [1, 5, 8, 9, 11, 12, 13] (a' := [(1, .fn 68 [.el [.int .i64 x1ac0] 0]), (5, .sl 0 0 s1.2.length), (8, .int .i64 v4.1), (9, .bool v4.2), (11, .lst false 9 (fl (enc_TItem false) x0) x0.length), (12, .int .i64 (x0.length : Int)), (13, .int .i64 s1.1)]) (H' := [some ⟨fl (encI true) s1.2, 1⟩, some ⟨[.int .i64 v3.Seq, .int .i64 v3.Rec.Kind, .int .i64 v3.Rec.Valid, .int .i64 v3.Rec.Uid, .int .i64 v3.Rec.Next, .int .i64 v3.Rec.Flags, .str v3.Rec.User, .str v3.Rec.Name, .str v3.Rec.Text], 0⟩]) rfl rfl ?_
   refine RW.sreg (rl.run 1 rfl (rl.done ?_))
   cases hb : v4.2
   ·have h7 := iteBF h6 hb
    refine RW.cond_f rfl (RW.skip (RW.reg (rl.run 2 rfl (rl.done ?_))))
    cases h7
    exact hB1 _ rfl _ _ (Gh.ren0 [0] (.same rfl (ekI.fref _ _) .nil) rfl (.cons rfl (RnL.fn (.cons (.dat (.el (fac .int fan))) .nil)) (.cons rfl (.slq rfl rfl) (.cons rfl (.dat (ek_TItem.rlst)) (.cons rfl (.dat .int) (.cons rfl (.dat .int) .nil))))))
   ·have h8 := iteBT h6 hb
    refine RW.cond_t rfl (RW.reg (rl.run 3 rfl ?_))
    obtain ⟨v5, e5, h9⟩ := bindS h8
    refine rl.op (x_app rfl rfl (rapp_sl (l := s1.2) (m := [v4.1]) (o := true) ekI rfl rfl (acont_slq (m := [v4.1]) (o := true) fkI rfl rfl) rfl (fkI.fst _ _) e5)) ?_
    refine rl.run 1 rfl (rl.done (RW.reg (rl.run 2 rfl (rl.done ?_))))
    cases h9
    exact hB1 _ rfl _ _ (Gh.ren0 [3] (.same rfl (ekI.fref _ _) .nil) rfl (.cons rfl (RnL.fn (.cons (.dat (.el (fac .int fan))) .nil)) (.cons rfl (.slq rfl rfl) (.cons rfl (.dat (ek_TItem.rlst)) (.cons rfl (.dat .int) (.cons rfl (.dat .int) .nil))))))
 ·intro y2 hC
  subst hC
  refine RW.sreg (rl.run 1 rfl ?_)
  obtain ⟨v7, e7, h10⟩ := bindS h2
  refine rl.call rfl rfl rfl (CallW.sortI (H' := [some ⟨fl (encI true) v7, 1⟩]) lay_slices_Sort_int e7 rfl rfl rfl rfl ?_)
  refine rl.done (RW.sreg (rl.run 1 rfl ?_))
  obtain ⟨v8, e8, h11⟩ := bindS h10
  refine rl.call rfl rfl rfl (CallW.compI (H' := [some ⟨fl (encI true) v8, 1⟩]) lay_slices_Compact_int e8 rfl ((sort?_length e7)).symm rfl rfl ?_)
  refine rl.run 1 rfl (rl.done (RW.ret ?_))
  cases h11
  exact RRet.mk rfl (OutR.ownq ekI rfl rfl) (by first | decide | simp)
theorem law_impl_mailItem_1_w {x0 : TRec} {x1 : Int} {x2 : Int} {x3 : Int} {r : Bool} (hF : F_impl_mailItem_1_w x0 x1 x2 x3 = some r) : ACalls Try.prog 3 81 [.agg (enc_TRec false x0), .ptr 0 0, .ptr 1 0, .ptr 2 0] [some ⟨[.int .i64 x1], 0⟩, some ⟨[.int .i64 x2], 0⟩, some ⟨[.int .i64 x3], 0⟩] (.bool r) [some ⟨[.int .i64 x1], 0⟩, some ⟨[.int .i64 x2], 0⟩, some ⟨[.int .i64 x3], 0⟩] := by
 refine ACalls.of_s k_impl_mailItem_1 rfl ?_
 unfold F_impl_mailItem_1_w at hF
 refine RW.sreg (rl.run 2 rfl (rl.done (RW.sreg (rl.run 3 rfl ?_))))
 obtain ⟨v1, e1, h1⟩ := bindS hF
 refine rl.call rfl rfl rfl (CallW.val (r' := .bool v1) ok_impl_about (law_impl_about e1) (.cons (DFL.agg (.cons .int (.cons .int (.cons .int (.cons .int (.cons .int (.cons .str (.cons .str (.cons .str .nil))))))))) (.cons .int (.cons .int .nil))) .refl ?_)
 cases hb : v1
 ·have h2 := iteBF h1 hb
  refine rl.run 7 rfl (rl.done ?_)
  refine RW.keep [5] (a' := [(5, .bool false)]) (H' := [some ⟨[.int .i64 x1], 0⟩, some ⟨[.int .i64 x2], 0⟩, some ⟨[.int .i64 x3], 0⟩, some ⟨[.int .i64 x0.Kind, .int .i64 x0.Valid, .int .i64 x0.Uid, .int .i64 x0.Next, .int .i64 x0.Flags, .str x0.User, .str x0.Name, .str x0.Text], 0⟩]) rfl rfl ?_
  refine RW.ret ?_
  cases h2
  exact RRetS.mk rfl .bool (Gh.renN [0, 1, 2] (.cells rfl rfl (.keep .int .nil) (.cells rfl rfl (.keep .int .nil) (.cells rfl rfl (.keep .int .nil) .nil))) rfl rfl rfl .nil)
 ·have h3 := iteBT h1 hb
  refine rl.run 7 rfl (rl.done ?_)
  refine RW.keep [5] (a' := [(5, .bool (x0.Uid == x3))]) (H' := [some ⟨[.int .i64 x1], 0⟩, some ⟨[.int .i64 x2], 0⟩, some ⟨[.int .i64 x3], 0⟩, some ⟨[.int .i64 x0.Kind, .int .i64 x0.Valid, .int .i64 x0.Uid, .int .i64 x0.Next, .int .i64 x0.Flags, .str x0.User, .str x0.Name, .str x0.Text], 0⟩]) rfl rfl ?_
  refine RW.ret ?_
  cases h3
  exact RRetS.mk rfl .bool (Gh.renN [0, 1, 2] (.cells rfl rfl (.keep .int .nil) (.cells rfl rfl (.keep .int .nil) (.cells rfl rfl (.keep .int .nil) .nil))) rfl rfl rfl .nil)
theorem law_impl_latest_mailItem_1_bySeq {x0 : List TItem} {x1 : Int} {x2 : Int} {x3 : Int} {r : TItem × Bool} (hF : F_impl_latest_mailItem_1_bySeq x0 x1 x2 x3 = some r) : ACalls Try.prog 3 62 [.lst false 9 (fl (enc_TItem false) x0) x0.length, .fn 81 [.ptr 0 0, .ptr 1 0, .ptr 2 0], .fn 65 []] [some ⟨[.int .i64 x1], 0⟩, some ⟨[.int .i64 x2], 0⟩, some ⟨[.int .i64 x3], 0⟩] (.tup [.agg (enc_TItem true r.1), .bool r.2]) [some ⟨[.int .i64 x1], 0⟩, some ⟨[.int .i64 x2], 0⟩, some ⟨[.int .i64 x3], 0⟩] := by
 refine ACalls.of_s k_impl_latest rfl ?_
 unfold F_impl_latest_mailItem_1_bySeq at hF
 refine RW.sreg (rl.run 2 rfl (rl.done (RW.sreg (rl.run 4 rfl (rl.done (RW.seq (RW.sreg (rl.run 3 rfl (rl.done ?_)))))))))
 obtain ⟨y7, ey7, h2⟩ := bindS hF
 refine RW.cutq (σ := Bool × Int × Int × Int × Int × Int × Int × (List UInt8) × (List UInt8) × (List UInt8)) (fun y2 => [(6, .ptr 3 0), (8, .ptr 4 0), (9, .bool y2.1)]) (fun y2 => [some ⟨[.int .i64 x1], 0⟩, some ⟨[.int .i64 x2], 0⟩, some ⟨[.int .i64 x3], 0⟩, some ⟨[.int .i64 0, .int .i64 0, .int .i64 0, .int .i64 0, .int .i64 0, .int .i64 0, .str [], .str [], .str []], 0⟩, some ⟨[.int .i64 y2.2.1, .int .i64 y2.2.2.1, .int .i64 y2.2.2.2.1, .int .i64 y2.2.2.2.2.1, .int .i64 y2.2.2.2.2.2.1, .int .i64 y2.2.2.2.2.2.2.1, .str y2.2.2.2.2.2.2.2.1, .str y2.2.2.2.2.2.2.2.2.1, .str y2.2.2.2.2.2.2.2.2.2], 0⟩]) (fun y => y7 = y) (fun _ _ _ _ g h => RW.gh g h) ?_ ?_
 ·refine RW.blk ?_
  refine RW.iter (σ := Bool × Int × Int × Int × Int × Int × Int × Int × (List UInt8) × (List UInt8) × (List UInt8)) ey7 (fun s1 => [(1, .fn 81 [.ptr 0 0, .ptr 1 0, .ptr 2 0]), (2, .fn 65 []), (6, .ptr 3 0), (8, .ptr 4 0), (9, .bool s1.1), (13, .lst false 9 (fl (enc_TItem false) x0) x0.length), (14, .int .i64 (x0.length : Int)), (15, .int .i64 s1.2.1)]) (fun s1 => [some ⟨[.int .i64 x1], 0⟩, some ⟨[.int .i64 x2], 0⟩, some ⟨[.int .i64 x3], 0⟩, some ⟨[.int .i64 0, .int .i64 0, .int .i64 0, .int .i64 0, .int .i64 0, .int .i64 0, .str [], .str [], .str []], 0⟩, some ⟨[.int .i64 s1.2.2.1, .int .i64 s1.2.2.2.1, .int .i64 s1.2.2.2.2.1, .int .i64 s1.2.2.2.2.2.1, .int .i64 s1.2.2.2.2.2.2.1, .int .i64 s1.2.2.2.2.2.2.2.1, .str s1.2.2.2.2.2.2.2.2.1, .str s1.2.2.2.2.2.2.2.2.2.1, .str s1.2.2.2.2.2.2.2.2.2.2], 0⟩]) (Gh.renN [0, 1, 2, 3, 4] (.cells rfl rfl (.keep .int .nil) (.cells rfl rfl (.keep .int .nil) (.cells rfl rfl (.keep .int .nil) (.cells rfl rfl (.keep .int (.keep .int (.keep .int (.keep .int (.keep .int (.keep .int (.keep .str (.keep .str (.keep .str .nil))))))))) (.cells rfl rfl (.keep .int (.keep .int (.keep .int (.keep .int (.keep .int (.keep .int (.keep .str (.keep .str (.keep .str .nil))))))))) .nil))))) rfl rfl rfl (.cons rfl (RnL.fn (.cons (.ptr rfl) (.cons (.ptr rfl) (.cons (.ptr rfl) .nil)))) (.cons rfl (RnL.fn .nil) (.cons rfl (.ptr rfl) (.cons rfl (.ptr rfl) (.cons rfl (.dat .bool) (.cons rfl (.dat (ek_TItem.rlst)) (.cons rfl (.dat .int) (.cons rfl (.dat .int) .nil))))))))) (fun s1 B o hS1 hB1 hE1 => ?_)
  unfold S_impl_latest_mailItem_1_bySeq_1 at hS1
  refine RW.sreg ?_
  refine rl.gen rfl rfl fun b hb => ?_
  cases b
  ·have h3 := iteBF hS1 hb
   refine rl.done (RW.seq (RW.cond_f rfl (RW.exit (blkA_eq ?_))))
   cases h3
   exact ⟨_, (hE1 _ rfl).symm, (Gh.renN [0, 1, 2, 3, 4] (.cells rfl rfl (.keep .int .nil) (.cells rfl rfl (.keep .int .nil) (.cells rfl rfl (.keep .int .nil) (.cells rfl rfl (.keep .int (.keep .int (.keep .int (.keep .int (.keep .int (.keep .int (.keep .str (.keep .str (.keep .str .nil))))))))) (.cells rfl rfl (.keep .int (.keep .int (.keep .int (.keep .int (.keep .int (.keep .int (.keep .str (.keep .str (.keep .str .nil))))))))) .nil))))) rfl rfl rfl (.cons rfl (.ptr rfl) (.cons rfl (.ptr rfl) (.cons rfl (.dat .bool) .nil))))⟩
  ·have h4 := iteBT hS1 hb
   refine rl.done (RW.seq (RW.cond_t rfl (RW.skip (RW.seq (RW.blk (RW.sreg ?_))))))
   obtain ⟨v3, e3, h5⟩ := bindS h4
   refine rl.op (x_ia_lst (enc := enc_TItem) (o := false) rfl rfl rfl e3) ?_
   refine rl.op (x_ld_ela (off' := 0) (vs := (enc_TItem false v3)) ek_TItem rfl e3 rfl rfl rfl) ?_
   refine rl.run 2 rfl (rl.done (RW.seq ?_))
   obtain ⟨y4, ey4, h6⟩ := bindS h5
   refine RW.cutq (σ := Bool) (fun y4 => [(1, .fn 81 [.ptr 0 0, .ptr 1 0, .ptr 2 0]), (2, .fn 65 []), (6, .ptr 3 0), (8, .ptr 4 0), (9, .bool s1.1), (11, .ptr 5 0), (13, .lst false 9 (fl (enc_TItem false) x0) x0.length), (14, .int .i64 (x0.length : Int)), (15, .int .i64 s1.2.1), (32, .bool y4)]) (fun y4 => [some ⟨[.int .i64 x1], 0⟩, some ⟨[.int .i64 x2], 0⟩, some ⟨[.int .i64 x3], 0⟩, some ⟨[.int .i64 0, .int .i64 0, .int .i64 0, .int .i64 0, .int .i64 0, .int .i64 0, .str [], .str [], .str []], 0⟩, some ⟨[.int .i64 s1.2.2.1, .int .i64 s1.2.2.2.1, .int .i64 s1.2.2.2.2.1, .int .i64 s1.2.2.2.2.2.1, .int .i64 s1.2.2.2.2.2.2.1, .int .i64 s1.2.2.2.2.2.2.2.1, .str s1.2.2.2.2.2.2.2.2.1, .str s1.2.2.2.2.2.2.2.2.2.1, .str s1.2.2.2.2.2.2.2.2.2.2], 0⟩, some ⟨[.int .i64 v3.Seq, .int .i64 v3.Rec.Kind, .int .i64 v3.Rec.Valid, .int .i64 v3.Rec.Uid, .int .i64 v3.Rec.Next, .int .i64 v3.Rec.Flags, .str v3.Rec.User, .str v3.Rec.Name, .str v3.Rec.Text], 0⟩]) (fun y => y4 = y) (fun _ _ _ _ g h => RW.gh g h) ?_ ?_
   ·refine RW.reg ?_
    refine rl.run 3 rfl ?_
    obtain ⟨v5, e5, h7⟩ := bindS ey4
    refine rl.call rfl rfl rfl (CallW.embR [0, 1, 2] ok_impl_mailItem_1 (law_impl_mailItem_1_w e5) (.cells rfl rfl (.keep .int .nil) (.cells rfl rfl (.keep .int .nil) (.cells rfl rfl (.keep .int .nil) .nil))) rfl rfl (.cons (RnL.agg (.cons (.dat .int) (.cons (.dat .int) (.cons (.dat .int) (.cons (.dat .int) (.cons (.dat .int) (.cons (.dat .str) (.cons (.dat .str) (.cons (.dat .str) .nil))))))))) (.cons (.ptr rfl) (.cons (.ptr rfl) (.cons (.ptr rfl) .nil)))) .bool ?_)
    cases hb : v5
    ·have h8 := iteBF h7 hb
     refine rl.run 10 rfl (rl.done ?_)
     cases h8
     exact ⟨_, rfl, (Gh.renN [0, 1, 2, 3, 4, 5] (.cells rfl rfl (.keep .int .nil) (.cells rfl rfl (.keep .int .nil) (.cells rfl rfl (.keep .int .nil) (.cells rfl rfl (.keep .int (.keep .int (.keep .int (.keep .int (.keep .int (.keep .int (.keep .str (.keep .str (.keep .str .nil))))))))) (.cells rfl rfl (.keep .int (.keep .int (.keep .int (.keep .int (.keep .int (.keep .int (.keep .str (.keep .str (.keep .str .nil))))))))) (.cells rfl rfl (.keep .int (.keep .int (.keep .int (.keep .int (.keep .int (.keep .int (.keep .str (.keep .str (.keep .str .nil))))))))) .nil)))))) rfl rfl rfl (.cons rfl (RnL.fn (.cons (.ptr rfl) (.cons (.ptr rfl) (.cons (.ptr rfl) .nil)))) (.cons rfl (RnL.fn .nil) (.cons rfl (.ptr rfl) (.cons rfl (.ptr rfl) (.cons rfl (.dat .bool) (.cons rfl (.ptr rfl) (.cons rfl (.dat (ek_TItem.rlst)) (.cons rfl (.dat .int) (.cons rfl (.dat .int) (.cons rfl (.dat .bool) .nil)))))))))))⟩
    ·have h9 := iteBT h7 hb
     refine rl.run 4 rfl ?_
     cases hb : (!s1.1)
     ·have h10 := iteBF h9 hb
      refine rl.run 3 rfl ?_
      obtain ⟨v6, e6, h11⟩ := bindS h10
      refine rl.call rfl rfl rfl (CallW.val (r' := .bool v6) ok_impl_bySeq (law_impl_bySeq e6) (.cons (DFL.agg (.cons .int (.cons .int (.cons .int (.cons .int (.cons .int (.cons .int (.cons .str (.cons .str (.cons .str .nil)))))))))) (.cons (DFL.agg (.cons .int (.cons .int (.cons .int (.cons .int (.cons .int (.cons .int (.cons .str (.cons .str (.cons .str .nil)))))))))) .nil)) .refl ?_)
      cases hb : v6
      ·have h12 := iteBF h11 hb
       refine rl.run 2 rfl (rl.done ?_)
       cases h12
       exact ⟨_, rfl, (Gh.renN [0, 1, 2, 3, 4, 5] (.cells rfl rfl (.keep .int .nil) (.cells rfl rfl (.keep .int .nil) (.cells rfl rfl (.keep .int .nil) (.cells rfl rfl (.keep .int (.keep .int (.keep .int (.keep .int (.keep .int (.keep .int (.keep .str (.keep .str (.keep .str .nil))))))))) (.cells rfl rfl (.keep .int (.keep .int (.keep .int (.keep .int (.keep .int (.keep .int (.keep .str (.keep .str (.keep .str .nil))))))))) (.cells rfl rfl (.keep .int (.keep .int (.keep .int (.keep .int (.keep .int (.keep .int (.keep .str (.keep .str (.keep .str .nil))))))))) .nil)))))) rfl rfl rfl (.cons rfl (RnL.fn (.cons (.ptr rfl) (.cons (.ptr rfl) (.cons (.ptr rfl) .nil)))) (.cons rfl (RnL.fn .nil) (.cons rfl (.ptr rfl) (.cons rfl (.ptr rfl) (.cons rfl (.dat .bool) (.cons rfl (.ptr rfl) (.cons rfl (.dat (ek_TItem.rlst)) (.cons rfl (.dat .int) (.cons rfl (.dat .int) (.cons rfl (.dat .bool) .nil)))))))))))⟩
      ·have h13 := iteBT h11 hb
       refine rl.run 2 rfl (rl.done ?_)
       cases h13
       exact ⟨_, rfl, (Gh.renN [0, 1, 2, 3, 4, 5] (.cells rfl rfl (.keep .int .nil) (.cells rfl rfl (.keep .int .nil) (.cells rfl rfl (.keep .int .nil) (.cells rfl rfl (.keep .int (.keep .int (.keep .int (.keep .int (.keep .int (.keep .int (.keep .str (.keep .str (.keep .str .nil))))))))) (.cells rfl rfl (.keep .int (.keep .int (.keep .int (.keep .int (.keep .int (.keep .int (.keep .str (.keep .str (.keep .str .nil))))))))) (.cells rfl rfl (.keep .int (.keep .int (.keep .int (.keep .int (.keep .int (.keep .int (.keep .str (.keep .str (.keep .str .nil))))))))) .nil)))))) rfl rfl rfl (.cons rfl (RnL.fn (.cons (.ptr rfl) (.cons (.ptr rfl) (.cons (.ptr rfl) .nil)))) (.cons rfl (RnL.fn .nil) (.cons rfl (.ptr rfl) (.cons rfl (.ptr rfl) (.cons rfl (.dat .bool) (.cons rfl (.ptr rfl) (.cons rfl (.dat (ek_TItem.rlst)) (.cons rfl (.dat .int) (.cons rfl (.dat .int) (.cons rfl (.dat .bool) .nil)))))))))))⟩
     ·have h14 := iteBT h9 hb
      refine rl.run 6 rfl (rl.done ?_)
      cases h14
      exact ⟨_, rfl, (Gh.renN [0, 1, 2, 3, 4, 5] (.cells rfl rfl (.keep .int .nil) (.cells rfl rfl (.keep .int .nil) (.cells rfl rfl (.keep .int .nil) (.cells rfl rfl (.keep .int (.keep .int (.keep .int (.keep .int (.keep .int (.keep .int (.keep .str (.keep .str (.keep .str .nil))))))))) (.cells rfl rfl (.keep .int (.keep .int (.keep .int (.keep .int (.keep .int (.keep .int (.keep .str (.keep .str (.keep .str .nil))))))))) (.cells rfl rfl (.keep .int (.keep .int (.keep .int (.keep .int (.keep .int (.keep .int (.keep .str (.keep .str (.keep .str .nil))))))))) .nil)))))) rfl rfl rfl (.cons rfl (RnL.fn (.cons (.ptr rfl) (.cons (.ptr rfl) (.cons (.ptr rfl) .nil)))) (.cons rfl (RnL.fn .nil) (.cons rfl (.ptr rfl) (.cons rfl (.ptr rfl) (.cons rfl (.dat .bool) (.cons rfl (.ptr rfl) (.cons rfl (.dat (ek_TItem.rlst)) (.cons rfl (.dat .int) (.cons rfl (.dat .int) (.cons rfl (.dat .bool) .nil)))))))))))⟩
   ·intro y hC
    subst hC
    cases hb : y4
    ·have h15 := iteBF h6 hb
     refine RW.cond_f rfl (RW.skip (RW.reg (rl.run 2 rfl (rl.done ?_))))
     cases h15
     exact hB1 _ rfl _ _ (Gh.renN [0, 1, 2, 3, 4] (.cells rfl rfl (.keep .int .nil) (.cells rfl rfl (.keep .int .nil) (.cells rfl rfl (.keep .int .nil) (.cells rfl rfl (.keep .int (.keep .int (.keep .int (.keep .int (.keep .int (.keep .int (.keep .str (.keep .str (.keep .str .nil))))))))) (.cells rfl rfl (.keep .int (.keep .int (.keep .int (.keep .int (.keep .int (.keep .int (.keep .str (.keep .str (.keep .str .nil))))))))) .nil))))) rfl rfl rfl (.cons rfl (RnL.fn (.cons (.ptr rfl) (.cons (.ptr rfl) (.cons (.ptr rfl) .nil)))) (.cons rfl (RnL.fn .nil) (.cons rfl (.ptr rfl) (.cons rfl (.ptr rfl) (.cons rfl (.dat .bool) (.cons rfl (.dat (ek_TItem.rlst)) (.cons rfl (.dat .int) (.cons rfl (.dat .int) .nil)))))))))
    ·have h16 := iteBT h6 hb
     refine RW.cond_t rfl (RW.reg (rl.run 3 rfl (rl.done (RW.reg (rl.run 2 rfl (rl.done ?_))))))
     cases h16
     exact hB1 _ rfl _ _ (Gh.renN [0, 1, 2, 3, 4] (.cells rfl rfl (.keep .int .nil) (.cells rfl rfl (.keep .int .nil) (.cells rfl rfl (.keep .int .nil) (.cells rfl rfl (.keep .int (.keep .int (.keep .int (.keep .int (.keep .int (.keep .int (.keep .str (.keep .str (.keep .str .nil))))))))) (.cells rfl rfl (.keep .int (.keep .int (.keep .int (.keep .int (.keep .int (.keep .int (.keep .str (.keep .str (.keep .str .nil))))))))) .nil))))) rfl rfl rfl (.cons rfl (RnL.fn (.cons (.ptr rfl) (.cons (.ptr rfl) (.cons (.ptr rfl) .nil)))) (.cons rfl (RnL.fn .nil) (.cons rfl (.ptr rfl) (.cons rfl (.ptr rfl) (.cons rfl (.dat .bool) (.cons rfl (.dat (ek_TItem.rlst)) (.cons rfl (.dat .int) (.cons rfl (.dat .int) .nil)))))))))
 ·intro y2 hC
  subst hC
  refine RW.sreg (rl.run 4 rfl (rl.done (RW.ret ?_)))
  cases h2
  exact RRetS.mk rfl (.tup (fac (.agg (sc_TItem _ _)) (fac .bool fan))) (Gh.renN [0, 1, 2] (.cells rfl rfl (.keep .int .nil) (.cells rfl rfl (.keep .int .nil) (.cells rfl rfl (.keep .int .nil) .nil))) rfl rfl rfl .nil)
theorem law_impl_mailItem {x0 : List TItem} {x1 : Int} {x2 : Int} {x3 : Int} {r : TItem × Bool} (hF : F_impl_mailItem x0 x1 x2 x3 = some r) : PCalls Try.prog 70 [.lst false 9 (fl (enc_TItem false) x0) x0.length, .int .i64 x1, .int .i64 x2, .int .i64 x3] (.tup [.agg (enc_TItem true r.1), .bool r.2]) := by
 refine PCalls.of_r k_impl_mailItem rfl ?_
 unfold F_impl_mailItem at hF
 refine RW.sreg (rl.run 5 rfl (rl.done (RW.sreg (rl.run 2 rfl ?_))))
 obtain ⟨v1, e1, h1⟩ := bindS hF
 refine rl.call rfl rfl rfl (CallW.embR [0, 1, 2] ok_impl_latest (law_impl_latest_mailItem_1_bySeq e1) (.cells rfl rfl (.keep .int .nil) (.cells rfl rfl (.keep .int .nil) (.cells rfl rfl (.keep .int .nil) .nil))) rfl rfl (.cons (.dat (ek_TItem.rlst)) (.cons (RnL.fn (.cons (.ptr rfl) (.cons (.ptr rfl) (.cons (.ptr rfl) .nil)))) (.cons (RnL.fn .nil) .nil))) (.tup (fac (.agg (sc_TItem _ _)) (fac .bool fan))) ?_)
 refine rl.run 4 rfl (rl.done ?_)
 refine RW.keep [8, 9] (a' := [(8, .ptr 3 0), (9, .bool v1.2)]) (H' := [some ⟨[.int .i64 x1], 0⟩, some ⟨[.int .i64 x2], 0⟩, some ⟨[.int .i64 x3], 0⟩, some ⟨[.int .i64 v1.1.Seq, .int .i64 v1.1.Rec.Kind, .int .i64 v1.1.Rec.Valid, .int .i64 v1.1.Rec.Uid, .int .i64 v1.1.Rec.Next, .int .i64 v1.1.Rec.Flags, .str v1.1.Rec.User, .str v1.1.Rec.Name, .str v1.1.Rec.Text], 0⟩]) rfl rfl ?_
 refine RW.ret ?_
 cases h1
 exact RRet.mk rfl (OutT.tup (.cons (OutL.agg (.cons .int rfl (.cons .int rfl (.cons .int rfl (.cons .int rfl (.cons .int rfl (.cons .int rfl (.cons .str rfl (.cons .str rfl (.cons .str rfl .nil)))))))))) (.cons .bool .nil))) (by first | decide | simp)
theorem law_impl_mailThere {x0 : List TItem} {x1 : Int} {x2 : Int} {r : TItem × Bool} (hF : F_impl_mailThere x0 x1 x2 = some r) : PCalls Try.prog 69 [.lst false 9 (fl (enc_TItem false) x0) x0.length, .int .i64 x1, .int .i64 x2] (.tup [.agg (enc_TItem true r.1), .bool r.2]) := by
 refine PCalls.of_r k_impl_mailThere rfl ?_
 unfold F_impl_mailThere at hF
 refine RW.sreg (rl.run 2 rfl (rl.done (RW.seq (RW.sreg (rl.run 2 rfl ?_)))))
 obtain ⟨v1, e1, h1⟩ := bindS hF
 refine rl.call rfl rfl rfl (CallW.val (r' := .tup [.agg (enc_TItem false v1.1), .bool v1.2]) ok_impl_boxThere (law_impl_boxThere e1) (.cons (.lst ek_TItem) (.cons .int .nil)) (FlL.tup (.cons .refl (.cons .refl .nil))) ?_)
 refine rl.run 6 rfl (rl.done (RW.sreg (rl.run 2 rfl (rl.done ?_))))
 cases hb : (!v1.2)
 ·have h2 := iteBF h1 hb
  refine RW.cond_f rfl (RW.skip (RW.seq (RW.sreg (rl.run 3 rfl ?_))))
  obtain ⟨v2, e2, h3⟩ := bindS h2
  refine rl.call rfl rfl rfl (CallW.val (r' := .tup [.agg (enc_TItem false v2.1), .bool v2.2]) ok_impl_mailItem (law_impl_mailItem e2) (.cons (.lst ek_TItem) (.cons .int (.cons .int (.cons .int .nil)))) (FlL.tup (.cons .refl (.cons .refl .nil))) ?_)
  refine rl.run 6 rfl (rl.done ?_)
  refine RW.keep [0, 1, 2, 6, 11] (a' := [(0, .lst false 9 (fl (enc_TItem false) x0) x0.length), (1, .int .i64 x1), (2, .int .i64 x2), (6, .ptr 0 0), (11, .bool v2.2)]) (H' := [some ⟨[.int .i64 0, .int .i64 0, .int .i64 0, .int .i64 0, .int .i64 0, .int .i64 0, .str [], .str [], .str []], 0⟩, some ⟨[.int .i64 v1.1.Seq, .int .i64 v1.1.Rec.Kind, .int .i64 v1.1.Rec.Valid, .int .i64 v1.1.Rec.Uid, .int .i64 v1.1.Rec.Next, .int .i64 v1.1.Rec.Flags, .str v1.1.Rec.User, .str v1.1.Rec.Name, .str v1.1.Rec.Text], 0⟩, some ⟨[.int .i64 v2.1.Seq, .int .i64 v2.1.Rec.Kind, .int .i64 v2.1.Rec.Valid, .int .i64 v2.1.Rec.Uid, .int .i64 v2.1.Rec.Next, .int .i64 v2.1.Rec.Flags, .str v2.1.Rec.User, .str v2.1.Rec.Name, .str v2.1.Rec.Text], 0⟩]) rfl rfl ?_
  refine RW.sreg (rl.run 1 rfl (rl.done ?_))
  cases hb : v2.2
  ·have h4 := iteBF h3 hb
   refine RW.cond_f rfl (RW.skip (RW.sreg (rl.run 3 rfl ?_)))
   obtain ⟨v3, e3, h5⟩ := bindS h4
   refine rl.call rfl rfl rfl (CallW.val (r' := .tup [.agg (enc_TItem false v3.1), .bool v3.2]) ok_impl_mailItem (law_impl_mailItem e3) (.cons (.lst ek_TItem) (.cons .int (.cons .int (.cons .int .nil)))) (FlL.tup (.cons .refl (.cons .refl .nil))) ?_)
   refine rl.run 4 rfl (rl.done ?_)
   refine RW.keep [6, 7] (a' := [(6, .ptr 0 0), (7, .bool v3.2)]) (H' := [some ⟨[.int .i64 v3.1.Seq, .int .i64 v3.1.Rec.Kind, .int .i64 v3.1.Rec.Valid, .int .i64 v3.1.Rec.Uid, .int .i64 v3.1.Rec.Next, .int .i64 v3.1.Rec.Flags, .str v3.1.Rec.User, .str v3.1.Rec.Name, .str v3.1.Rec.Text], 0⟩, some ⟨[.int .i64 v1.1.Seq, .int .i64 v1.1.Rec.Kind, .int .i64 v1.1.Rec.Valid, .int .i64 v1.1.Rec.Uid, .int .i64 v1.1.Rec.Next, .int .i64 v1.1.Rec.Flags, .str v1.1.Rec.User, .str v1.1.Rec.Name, .str v1.1.Rec.Text], 0⟩, some ⟨[.int .i64 v2.1.Seq, .int .i64 v2.1.Rec.Kind, .int .i64 v2.1.Rec.Valid, .int .i64 v2.1.Rec.Uid, .int .i64 v2.1.Rec.Next, .int .i64 v2.1.Rec.Flags, .str v2.1.Rec.User, .str v2.1.Rec.Name, .str v2.1.Rec.Text], 0⟩]) rfl rfl ?_
   refine RW.ret ?_
   cases h5
   exact RRet.mk rfl (OutT.tup (.cons (OutL.agg (.cons .int rfl (.cons .int rfl (.cons .int rfl (.cons .int rfl (.cons .int rfl (.cons .int rfl (.cons .str rfl (.cons .str rfl (.cons .str rfl .nil)))))))))) (.cons .bool .nil))) (by first | decide | simp)
  ·have h6 := iteBT h3 hb
   refine RW.cond_t rfl (RW.sreg (rl.run 3 rfl (rl.done (RW.ret ?_))))
   cases h6
   exact RRet.mk rfl (OutT.tup (.cons (OutL.agg (.cons .int rfl (.cons .int rfl (.cons .int rfl (.cons .int rfl (.cons .int rfl (.cons .int rfl (.cons .str rfl (.cons .str rfl (.cons .str rfl .nil)))))))))) (.cons .bool .nil))) (by first | decide | simp)
 ·have h7 := iteBT h1 hb
  refine RW.cond_t rfl (RW.sreg (rl.run 3 rfl (rl.done ?_)))
  refine RW.keep [6, 7] (a' := [(6, .ptr 0 0), (7, .bool false)]) (H' := [some ⟨[.int .i64 0, .int .i64 0, .int .i64 0, .int .i64 0, .int .i64 0, .int .i64 0, .str [], .str [], .str []], 0⟩, some ⟨[.int .i64 v1.1.Seq, .int .i64 v1.1.Rec.Kind, .int .i64 v1.1.Rec.Valid, .int .i64 v1.1.Rec.Uid, .int .i64 v1.1.Rec.Next, .int .i64 v1.1.Rec.Flags, .str v1.1.Rec.User, .str v1.1.Rec.Name, .str v1.1.Rec.Text], 0⟩]) rfl rfl ?_
  refine RW.ret ?_
  cases h7
  exact RRet.mk rfl (OutT.tup (.cons (OutL.agg (.cons .int rfl (.cons .int rfl (.cons .int rfl (.cons .int rfl (.cons .int rfl (.cons .int rfl (.cons .str rfl (.cons .str rfl (.cons .str rfl .nil)))))))))) (.cons .bool .nil))) (by first | decide | simp)
set_option maxHeartbeats 2000000 in
theorem law_impl_boxState {x0 : List TItem} {x1 : TItem} {r : TBox} (hF : F_impl_boxState x0 x1 = some r) : PCalls Try.prog 38 [.lst false 9 (fl (enc_TItem false) x0) x0.length, .agg (enc_TItem false x1)] (.agg (enc_TBox true r)) := by
 refine PCalls.of_r k_impl_boxState rfl ?_
 unfold F_impl_boxState at hF
 refine RW.sreg (rl.run 2 rfl (rl.done (RW.sreg (rl.run 5 rfl (rl.done (RW.sreg (rl.run 13 rfl (rl.done ?_))))))))
 refine RW.keep [0, 4, 5, 6] (a' := [(0, .lst false 9 (fl (enc_TItem false) x0) x0.length), (4, .ptr 1 0), (5, .ptr 2 0), (6, .ptr 3 0)]) (H' := [some ⟨[.int .i64 x1.Seq, .int .i64 x1.Rec.Kind, .int .i64 x1.Rec.Valid, .int .i64 x1.Rec.Uid, .int .i64 x1.Rec.Next, .int .i64 x1.Rec.Flags, .str x1.Rec.User, .str x1.Rec.Name, .str x1.Rec.Text], 0⟩, some ⟨[.int .i64 0, .str [], .str [], .int .i64 0, .nils], 0⟩, some ⟨[.int .i64 x1.Rec.Valid], 0⟩, some ⟨[.int .i64 x1.Rec.Valid, .str x1.Rec.User, .str x1.Rec.Name, .int .i64 x1.Rec.Next, .nils], 0⟩]) rfl rfl ?_
 refine RW.sreg (rl.run 2 rfl ?_)
 obtain ⟨v1, e1, h1⟩ := bindS hF
 refine rl.call rfl rfl rfl (CallW.valS (r' := .lst false 1 (fl (encI false) v1) v1.length) ok_impl_numbers (law_impl_numbers_boxState_1 e1) (.cons (.of (.lst ek_TItem)) (.cons (DS.fn (.cons (DS.ptr rfl (fac .int fan)) .nil)) .nil)) (ekI.fflag _).lst ?_)
 refine rl.run 1 rfl (rl.done (RW.seq (RW.sreg (rl.run 3 rfl (rl.done ?_)))))
 refine RW.gh (Gh.nil_c 3 4 3 rfl rfl) ?_
 obtain ⟨y9, ey9, h3⟩ := bindS h1
 refine RW.cutq (σ := Int × (List TMail)) (fun y3 => [(4, .ptr 0 0), (6, .ptr 1 0)]) (fun y3 => [some ⟨[.int .i64 0, .str [], .str [], .int .i64 0, .nils], 0⟩, some ⟨[.int .i64 x1.Rec.Valid, .str x1.Rec.User, .str x1.Rec.Name, .int .i64 y3.1, .sl 2 0 y3.2.length], 0⟩, some ⟨fl (enc_TMail true) y3.2, 3⟩]) (fun y => y9 = y) (fun _ _ _ _ g h => RW.gh g h) ?_ ?_
 ·refine RW.blk ?_
  refine RW.iter (σ := Int × Int × (List TMail)) ey9 (fun s2 => [(0, .lst false 9 (fl (enc_TItem false) x0) x0.length), (4, .ptr 0 0), (5, .ptr 1 0), (6, .ptr 2 0), (32, .lst false 1 (fl (encI false) v1) v1.length), (33, .int .i64 (v1.length : Int)), (34, .int .i64 s2.1)]) (fun s2 => [some ⟨[.int .i64 0, .str [], .str [], .int .i64 0, .nils], 0⟩, some ⟨[.int .i64 x1.Rec.Valid], 0⟩, some ⟨[.int .i64 x1.Rec.Valid, .str x1.Rec.User, .str x1.Rec.Name, .int .i64 s2.2.1, .sl 3 0 s2.2.2.length], 0⟩, some ⟨fl (enc_TMail true) s2.2.2, 3⟩]) (Gh.ren0 [1, 2, 3, 4] (.cells rfl rfl (.keep .int (.keep .str (.keep .str (.keep .int (.keep .nils .nil))))) (.cells rfl rfl (.keep .int .nil) (.cells rfl rfl (.keep .int (.keep .str (.keep .str (.keep .int (.slq rfl rfl .nil))))) (.same rfl (ek_TMail.fref _ _) .nil)))) rfl (.cons rfl (.dat (ek_TItem.rlst)) (.cons rfl (.ptr rfl) (.cons rfl (.ptr rfl) (.cons rfl (.ptr rfl) (.cons rfl (.dat (ekI.rlst)) (.cons rfl (.dat .int) (.cons rfl (.dat .int) .nil)))))))) (fun s2 B o hS2 hB2 hE2 => ?_)
  unfold S_impl_boxState_1 at hS2
  refine RW.sreg ?_
  refine rl.gen rfl rfl fun b hb => ?_
  cases b
  ·have h4 := iteBF hS2 hb
   refine rl.done (RW.seq (RW.cond_f rfl (RW.exit (blkA_eq ?_))))
   cases h4
   exact ⟨_, (hE2 _ rfl).symm, (Gh.ren0 [0, 2, 3] (.cells rfl rfl (.keep .int (.keep .str (.keep .str (.keep .int (.keep .nils .nil))))) (.cells rfl rfl (.keep .int (.keep .str (.keep .str (.keep .int (.slq rfl rfl .nil))))) (.same rfl (ek_TMail.fref _ _) .nil))) rfl (.cons rfl (.ptr rfl) (.cons rfl (.ptr rfl) .nil)))⟩
  ·have h5 := iteBT hS2 hb
   refine rl.done (RW.seq (RW.cond_t rfl (RW.skip (RW.seq (RW.blk (RW.sreg ?_))))))
   obtain ⟨v4, e4, h6⟩ := bindS h5
   refine rl.op (x_ia_lst (enc := encI) (o := false) rfl rfl rfl e4) ?_
   refine rl.op (x_ld_el (off' := 0) ekI rfl e4 rfl rfl rfl) ?_
   refine rl.run 1 rfl (rl.done (RW.sreg (rl.run 7 rfl (rl.done (RW.sreg (rl.run 3 rfl ?_))))))
   obtain ⟨v5, e5, h7⟩ := bindS h6
   refine rl.call rfl rfl rfl (CallW.val (r' := .tup [.agg (enc_TItem false v5.1), .bool v5.2]) ok_impl_mailThere (law_impl_mailThere e5) (.cons (.lst ek_TItem) (.cons .int (.cons .int .nil))) (FlL.tup (.cons .refl (.cons .refl .nil))) ?_)
   refine rl.run 6 rfl (rl.done ?_)
   refine RW.keep [0, 4, 5, 6, 9, 10, 11, 32, 33, 34] (a' := [(0, .lst false 9 (fl (enc_TItem false) x0) x0.length), (4, .ptr 0 0), (5, .ptr 1 0), (6, .ptr 2 0), (9, .int .i64 v4), (10, .ptr 4 0), (11, .bool v5.2), (32, .lst false 1 (fl (encI false) v1) v1.length), (33, .int .i64 (v1.length : Int)), (34, .int .i64 s2.1)]) (H' := [some ⟨[.int .i64 0, .str [], .str [], .int .i64 0, .nils], 0⟩, some ⟨[.int .i64 x1.Rec.Valid], 0⟩, some ⟨[.int .i64 x1.Rec.Valid, .str x1.Rec.User, .str x1.Rec.Name, .int .i64 (if w64 (v4 + 1) > s2.2.1 then w64 (v4 + 1) else s2.2.1), .sl 3 0 s2.2.2.length], 0⟩, some ⟨fl (enc_TMail true) s2.2.2, 3⟩, some ⟨[.int .i64 v5.1.Seq, .int .i64 v5.1.Rec.Kind, .int .i64 v5.1.Rec.Valid, .int .i64 v5.1.Rec.Uid, .int .i64 v5.1.Rec.Next, .int .i64 v5.1.Rec.Flags, .str v5.1.Rec.User, .str v5.1.Rec.Name, .str v5.1.Rec.Text], 0⟩]) rfl rfl ?_
   refine RW.seq (RW.sreg (rl.run 2 rfl (rl.done ?_)))
   cases hb : (!v5.2)
   ·have h8 := iteBF h7 hb
    refine RW.cond_f rfl (RW.skip (RW.sreg (rl.run 10 rfl (rl.done ?_))))
    refine RW.keep [0, 4, 5, 6, 9, 12, 32, 33, 34] (a' := [(0, .lst false 9 (fl (enc_TItem false) x0) x0.length), (4, .ptr 0 0), (5, .ptr 1 0), (6, .ptr 2 0), (9, .int .i64 v4), (12, .ptr 5 0), (32, .lst false 1 (fl (encI false) v1) v1.length), (33, .int .i64 (v1.length : Int)), (34, .int .i64 s2.1)]) (H' := [some ⟨[.int .i64 0, .str [], .str [], .int .i64 0, .nils], 0⟩, some ⟨[.int .i64 x1.Rec.Valid], 0⟩, some ⟨[.int .i64 x1.Rec.Valid, .str x1.Rec.User, .str x1.Rec.Name, .int .i64 (if w64 (v4 + 1) > s2.2.1 then w64 (v4 + 1) else s2.2.1), .sl 3 0 s2.2.2.length], 0⟩, some ⟨fl (enc_TMail true) s2.2.2, 3⟩, some ⟨[.int .i64 v5.1.Seq, .int .i64 v5.1.Rec.Kind, .int .i64 v5.1.Rec.Valid, .int .i64 v5.1.Rec.Uid, .int .i64 v5.1.Rec.Next, .int .i64 v5.1.Rec.Flags, .str v5.1.Rec.User, .str v5.1.Rec.Name, .str v5.1.Rec.Text], 0⟩, some ⟨[.int .i64 v4, .int .i64 v5.1.Rec.Flags, .str v5.1.Rec.Text], 0⟩]) rfl rfl ?_
    refine RW.seq (RW.sreg (rl.run 3 rfl ?_))
    obtain ⟨v6, e6, h9⟩ := bindS h8
    refine rl.call rfl rfl rfl (CallW.val (r' := .tup [.agg (enc_TItem false v6.1), .bool v6.2]) ok_impl_mailItem (law_impl_mailItem e6) (.cons (.lst ek_TItem) (.cons .int (.cons .int (.cons .int .nil)))) (FlL.tup (.cons .refl (.cons .refl .nil))) ?_)
    refine rl.run 6 rfl (rl.done (RW.sreg (rl.run 1 rfl (rl.done ?_))))
    obtain ⟨y7, ey7, h10⟩ := bindS h9
    refine RW.cutq (σ := Int) (fun y7 => [(0, .lst false 9 (fl (enc_TItem false) x0) x0.length), (4, .ptr 0 0), (5, .ptr 1 0), (6, .ptr 2 0), (12, .ptr 3 0), (32, .lst false 1 (fl (encI false) v1) v1.length), (33, .int .i64 (v1.length : Int)), (34, .int .i64 s2.1)]) (fun y7 => [some ⟨[.int .i64 0, .str [], .str [], .int .i64 0, .nils], 0⟩, some ⟨[.int .i64 x1.Rec.Valid], 0⟩, some ⟨[.int .i64 x1.Rec.Valid, .str x1.Rec.User, .str x1.Rec.Name, .int .i64 (if w64 (v4 + 1) > s2.2.1 then w64 (v4 + 1) else s2.2.1), .sl 4 0 s2.2.2.length], 0⟩, some ⟨[.int .i64 v4, .int .i64 y7, .str v5.1.Rec.Text], 0⟩, some ⟨fl (enc_TMail true) s2.2.2, 3⟩]) (fun y => y7 = y) (fun _ _ _ _ g h => RW.gh g h) ?_ ?_
    ·cases hb : v6.2
     ·have h11 := iteBF ey7 hb
      refine RW.cond_f rfl (RW.skip ?_)
      cases h11
      exact ⟨_, rfl, (Gh.ren0 [0, 1, 2, 5, 3] (.cells rfl rfl (.keep .int (.keep .str (.keep .str (.keep .int (.keep .nils .nil))))) (.cells rfl rfl (.keep .int .nil) (.cells rfl rfl (.keep .int (.keep .str (.keep .str (.keep .int (.slq rfl rfl .nil))))) (.cells rfl rfl (.keep .int (.keep .int (.keep .str .nil))) (.same rfl (ek_TMail.fref _ _) .nil))))) rfl (.cons rfl (.dat (ek_TItem.rlst)) (.cons rfl (.ptr rfl) (.cons rfl (.ptr rfl) (.cons rfl (.ptr rfl) (.cons rfl (.ptr rfl) (.cons rfl (.dat (ekI.rlst)) (.cons rfl (.dat .int) (.cons rfl (.dat .int) .nil)))))))))⟩
     ·have h12 := iteBT ey7 hb
      refine RW.cond_t rfl (RW.reg (rl.run 5 rfl (rl.done ?_)))
      cases h12
      exact ⟨_, rfl, (Gh.ren0 [0, 1, 2, 5, 3] (.cells rfl rfl (.keep .int (.keep .str (.keep .str (.keep .int (.keep .nils .nil))))) (.cells rfl rfl (.keep .int .nil) (.cells rfl rfl (.keep .int (.keep .str (.keep .str (.keep .int (.slq rfl rfl .nil))))) (.cells rfl rfl (.keep .int (.keep .int (.keep .str .nil))) (.same rfl (ek_TMail.fref _ _) .nil))))) rfl (.cons rfl (.dat (ek_TItem.rlst)) (.cons rfl (.ptr rfl) (.cons rfl (.ptr rfl) (.cons rfl (.ptr rfl) (.cons rfl (.ptr rfl) (.cons rfl (.dat (ekI.rlst)) (.cons rfl (.dat .int) (.cons rfl (.dat .int) .nil)))))))))⟩
    ·intro y hC
     subst hC
     refine RW.reg (rl.run 4 rfl ?_)
     obtain ⟨v8, e8, h13⟩ := bindS h10
     refine rl.op (x_app rfl rfl (rapp_sl (l := s2.2.2) (m := [({ Uid := v4, Flags := y7, Text := v5.1.Rec.Text } : TMail)]) (o := true) ek_TMail rfl rfl (acont_slq (m := [({ Uid := v4, Flags := y7, Text := v5.1.Rec.Text } : TMail)]) (o := true) fk_TMail rfl rfl) rfl (fk_TMail.fst _ _) e8)) ?_
     refine rl.run 2 rfl (rl.done (RW.reg (rl.run 2 rfl (rl.done ?_))))
     cases h13
     exact hB2 _ rfl _ _ (Gh.ren0 [0, 1, 2, 6] (.cells rfl rfl (.keep .int (.keep .str (.keep .str (.keep .int (.keep .nils .nil))))) (.cells rfl rfl (.keep .int .nil) (.cells rfl rfl (.keep .int (.keep .str (.keep .str (.keep .int (.slq rfl rfl .nil))))) (.same rfl (ek_TMail.fref _ _) .nil)))) rfl (.cons rfl (.dat (ek_TItem.rlst)) (.cons rfl (.ptr rfl) (.cons rfl (.ptr rfl) (.cons rfl (.ptr rfl) (.cons rfl (.dat (ekI.rlst)) (.cons rfl (.dat .int) (.cons rfl (.dat .int) .nil))))))))
   ·have h14 := iteBT h7 hb
    refine RW.cond_t rfl (RW.exit (blkA_eq (RW.reg (rl.run 2 rfl (rl.done ?_)))))
    cases h14
    exact hB2 _ rfl _ _ (Gh.ren0 [0, 1, 2, 3] (.cells rfl rfl (.keep .int (.keep .str (.keep .str (.keep .int (.keep .nils .nil))))) (.cells rfl rfl (.keep .int .nil) (.cells rfl rfl (.keep .int (.keep .str (.keep .str (.keep .int (.slq rfl rfl .nil))))) (.same rfl (ek_TMail.fref _ _) .nil)))) rfl (.cons rfl (.dat (ek_TItem.rlst)) (.cons rfl (.ptr rfl) (.cons rfl (.ptr rfl) (.cons rfl (.ptr rfl) (.cons rfl (.dat (ekI.rlst)) (.cons rfl (.dat .int) (.cons rfl (.dat .int) .nil))))))))
 ·intro y3 hC
  subst hC
  refine RW.sreg (rl.run 2 rfl (rl.done (RW.ret ?_)))
  cases h3
  exact RRet.mk rfl (OutL.agg (.cons .int rfl (.cons .str rfl (.cons .str rfl (.cons .int rfl (.cons (OutR.ownq ek_TMail rfl rfl) rfl .nil)))))) (by first | decide | simp)
theorem law_impl_StateOf {x0 : List TItem} {r : TState} (hF : F_impl_StateOf x0 = some r) : PCalls Try.prog 9 [.lst false 9 (fl (enc_TItem false) x0) x0.length] (.agg (enc_TState true r)) := by
 refine PCalls.of_r k_impl_StateOf rfl ?_
 unfold F_impl_StateOf at hF
 refine RW.sreg (rl.run 1 rfl (rl.done (RW.seq (RW.sreg (rl.run 1 rfl ?_)))))
 obtain ⟨v1, e1, h1⟩ := bindS hF
 refine rl.call rfl rfl rfl (CallW.val (r' := .bool v1) ok_impl_ItemsOk (law_impl_ItemsOk e1) (.cons (.lst ek_TItem) .nil) .refl ?_)
 cases hb : v1
 ·have h2 := iteBF h1 hb
  refine rl.run 1 rfl (rl.done (RW.cond_t rfl (RW.sreg (rl.run 2 rfl (rl.done (RW.ret ?_))))))
  cases h2
  exact RRet.mk rfl (OutL.agg (.cons (OutR.nil (enc := enc_TBox)) rfl .nil)) (by first | decide | simp)
 ·have h3 := iteBT h1 hb
  refine rl.run 1 rfl (rl.done (RW.cond_f rfl (RW.skip (RW.sreg (rl.run 3 rfl (rl.done (RW.seq (RW.sreg (rl.run 1 rfl ?_)))))))))
  obtain ⟨v2, e2, h4⟩ := bindS h3
  refine rl.call rfl rfl rfl (CallW.val (r' := .lst false 1 (fl (encI false) v2) v2.length) ok_impl_numbers (law_impl_numbers_StateOf_1 e2) (.cons (.lst ek_TItem) (.cons .fn .nil)) (ekI.fflag _).lst ?_)
  refine rl.run 2 rfl (rl.done ?_)
  refine RW.gh (Gh.nil_c 1 0 5 rfl rfl) ?_
  obtain ⟨y9, ey9, h6⟩ := bindS h4
  refine RW.cutq (σ := (List TBox)) (fun y4 => [(2, .ptr 0 0), (3, .ptr 1 0)]) (fun y4 => [some ⟨[.nils], 0⟩, some ⟨[.sl 2 0 y4.length], 0⟩, some ⟨fl (enc_TBox true) y4, 5⟩]) (fun y => y9 = y) (fun _ _ _ _ g h => RW.gh g h) ?_ ?_
  ·refine RW.blk ?_
   refine RW.iter (σ := Int × (List TBox)) ey9 (fun s3 => [(0, .lst false 9 (fl (enc_TItem false) x0) x0.length), (2, .ptr 0 0), (3, .ptr 1 0), (14, .lst false 1 (fl (encI false) v2) v2.length), (15, .int .i64 (v2.length : Int)), (16, .int .i64 s3.1)]) (fun s3 => [some ⟨[.nils], 0⟩, some ⟨[.sl 2 0 s3.2.length], 0⟩, some ⟨fl (enc_TBox true) s3.2, 5⟩]) (Gh.ren0 [0, 1, 2] (.cells rfl rfl (.keep .nils .nil) (.cells rfl rfl (.slq rfl rfl .nil) (.same rfl (ek_TBox.fref _ _) .nil))) rfl (.cons rfl (.dat (ek_TItem.rlst)) (.cons rfl (.ptr rfl) (.cons rfl (.ptr rfl) (.cons rfl (.dat (ekI.rlst)) (.cons rfl (.dat .int) (.cons rfl (.dat .int) .nil))))))) (fun s3 B o hS5 hB5 hE5 => ?_)
   unfold S_impl_StateOf_1 at hS5
   refine RW.sreg ?_
   refine rl.gen rfl rfl fun b hb => ?_
   cases b
   ·have h7 := iteBF hS5 hb
    refine rl.done (RW.seq (RW.cond_f rfl (RW.exit (blkA_eq ?_))))
    cases h7
    exact ⟨_, (hE5 _ rfl).symm, (Gh.ren0 [0, 1, 2] (.cells rfl rfl (.keep .nils .nil) (.cells rfl rfl (.slq rfl rfl .nil) (.same rfl (ek_TBox.fref _ _) .nil))) rfl (.cons rfl (.ptr rfl) (.cons rfl (.ptr rfl) .nil)))⟩
   ·have h8 := iteBT hS5 hb
    refine rl.done (RW.seq (RW.cond_t rfl (RW.skip (RW.seq (RW.blk (RW.sreg ?_))))))
    obtain ⟨v5, e5, h9⟩ := bindS h8
    refine rl.op (x_ia_lst (enc := encI) (o := false) rfl rfl rfl e5) ?_
    refine rl.op (x_ld_el (off' := 0) ekI rfl e5 rfl rfl rfl) ?_
    refine rl.run 1 rfl (rl.done (RW.sreg (rl.run 2 rfl ?_)))
    obtain ⟨v6, e6, h10⟩ := bindS h9
    refine rl.call rfl rfl rfl (CallW.val (r' := .tup [.agg (enc_TItem false v6.1), .bool v6.2]) ok_impl_boxThere (law_impl_boxThere e6) (.cons (.lst ek_TItem) (.cons .int .nil)) (FlL.tup (.cons .refl (.cons .refl .nil))) ?_)
    refine rl.run 6 rfl (rl.done (RW.sreg (rl.run 1 rfl (rl.done ?_))))
    refine RW.keep [0, 2, 3, 6, 14, 15, 16, 26] (a' := [(0, .lst false 9 (fl (enc_TItem false) x0) x0.length), (2, .ptr 0 0), (3, .ptr 1 0), (6, .ptr 3 0), (14, .lst false 1 (fl (encI false) v2) v2.length), (15, .int .i64 (v2.length : Int)), (16, .int .i64 s3.1), (26, .bool v6.2)]) (H' := [some ⟨[.nils], 0⟩, some ⟨[.sl 2 0 s3.2.length], 0⟩, some ⟨fl (enc_TBox true) s3.2, 5⟩, some ⟨[.int .i64 v6.1.Seq, .int .i64 v6.1.Rec.Kind, .int .i64 v6.1.Rec.Valid, .int .i64 v6.1.Rec.Uid, .int .i64 v6.1.Rec.Next, .int .i64 v6.1.Rec.Flags, .str v6.1.Rec.User, .str v6.1.Rec.Name, .str v6.1.Rec.Text], 0⟩]) rfl rfl ?_
    cases hb : v6.2
    ·have h11 := iteBF h10 hb
     refine RW.cond_f rfl (RW.skip (RW.reg (rl.run 2 rfl (rl.done ?_))))
     cases h11
     exact hB5 _ rfl _ _ (Gh.ren0 [0, 1, 2] (.cells rfl rfl (.keep .nils .nil) (.cells rfl rfl (.slq rfl rfl .nil) (.same rfl (ek_TBox.fref _ _) .nil))) rfl (.cons rfl (.dat (ek_TItem.rlst)) (.cons rfl (.ptr rfl) (.cons rfl (.ptr rfl) (.cons rfl (.dat (ekI.rlst)) (.cons rfl (.dat .int) (.cons rfl (.dat .int) .nil)))))))
    ·have h12 := iteBT h10 hb
     refine RW.cond_t rfl (RW.drw (rdraw.op rfl rfl (rdraw.op rfl rfl (rdraw.op rfl rfl (rdraw.op rfl rfl ?_)))))
     obtain ⟨v7, e7, h13⟩ := bindS h12
     refine rdraw.ccallB rfl rfl rfl (CallW.own (r' := .agg [.int .i64 v7.Valid, .str v7.User, .str v7.Name, .int .i64 v7.Next, .sl 4 0 v7.Mails.length]) (H' := [some ⟨[.nils], 0⟩, some ⟨[.sl 2 0 s3.2.length], 0⟩, some ⟨fl (enc_TBox true) s3.2, 5⟩, some ⟨[.int .i64 v6.1.Seq, .int .i64 v6.1.Rec.Kind, .int .i64 v6.1.Rec.Valid, .int .i64 v6.1.Rec.Uid, .int .i64 v6.1.Rec.Next, .int .i64 v6.1.Rec.Flags, .str v6.1.Rec.User, .str v6.1.Rec.Name, .str v6.1.Rec.Text], 0⟩, some ⟨fl (enc_TMail true) v7.Mails, 3⟩]) ok_impl_boxState (law_impl_boxState e7) (.cons (.lst ek_TItem) (.cons (DFL.agg (.cons .int (.cons .int (.cons .int (.cons .int (.cons .int (.cons .int (.cons .str (.cons .str (.cons .str .nil)))))))))) .nil)) (ek_TBox.own _) rfl ⟨(.skip rfl (.skip rfl (.here (.rx rfl) (.here (.rx rfl) .nil)))), ?_⟩)
     refine rdraw.chnB rfl rfl (.skip rfl (.skip rfl (.here (.rx rfl) (.here (.rx rfl) .nil)))) ?_
     obtain ⟨v8, e8, h14⟩ := bindS h13
     refine rdraw.chn rfl (x_app rfl rfl (rapp_raw ek_TBox rfl rfl (acont_one rfl rfl rfl) e8)) ?_
     refine rdraw.op rfl rfl ?_
     refine rdraw.chn rfl rfl ?_
     refine rdraw.done ?_
     refine RW.gh (Gh.absorb_rawq (b := 6) (j := 4) (m := 4) rfl rfl rfl (by decide) (by decide) rfl (ek_TMail.flen true _) (ek_TMail.fown _)) ?_
     refine RW.gh (Gh.blk (b := 6) rfl (raw_app (enc := enc_TBox) e8 rfl)) ?_
     refine RW.reg (rl.run 2 rfl (rl.done ?_))
     cases h14
     exact hB5 _ rfl _ _ (Gh.ren0 [0, 1, 6] (.cells rfl rfl (.keep .nils .nil) (.cells rfl rfl (.slq rfl rfl .nil) (.same rfl (ek_TBox.fref _ _) .nil))) rfl (.cons rfl (.dat (ek_TItem.rlst)) (.cons rfl (.ptr rfl) (.cons rfl (.ptr rfl) (.cons rfl (.dat (ekI.rlst)) (.cons rfl (.dat .int) (.cons rfl (.dat .int) .nil)))))))
  ·intro y4 hC
   subst hC
   refine RW.sreg (rl.run 2 rfl (rl.done (RW.ret ?_)))
   cases h6
   exact RRet.mk rfl (OutL.agg (.cons (OutR.ownq ek_TBox rfl rfl) rfl .nil)) (by first | decide | simp)
set_option maxHeartbeats 2000000 in
theorem law_impl_NextsOf {x0 : List TItem} {x1 : List Bool} {r : List TRec} (hF : F_impl_NextsOf x0 x1 = some r) : PCalls Try.prog 17 [.lst false 9 (fl (enc_TItem false) x0) x0.length, .lst false 1 (fl (encO false) x1) x1.length] (.lst true 8 (fl (enc_TRec true) r) r.length) := by
 refine PCalls.of_r k_impl_NextsOf rfl ?_
 unfold F_impl_NextsOf at hF
 refine RW.sreg (rl.run 1 rfl (rl.done (RW.sreg (rl.run 2 rfl ?_))))
 obtain ⟨v1, e1, h1⟩ := bindS hF
 refine rl.call rfl rfl rfl (CallW.val (r' := .lst false 9 (fl (enc_TItem false) v1) v1.length) ok_impl_Without (law_impl_Without e1) (.cons (.lst ek_TItem) (.cons (.lst ekO) .nil)) (ek_TItem.fflag _).lst ?_)
 obtain ⟨v2, e2, h2⟩ := bindS h1
 refine rl.call rfl rfl rfl (CallW.val (r' := .agg (enc_TState false v2)) ok_impl_StateOf (law_impl_StateOf e2) (.cons (.lst ek_TItem) .nil) (ek_TState.flag _).agg ?_)
 refine rl.run 2 rfl (rl.done (RW.sreg (rl.run 2 rfl (rl.done (RW.seq (RW.sreg (rl.run 1 rfl ?_)))))))
 obtain ⟨v3, e3, h3⟩ := bindS h2
 refine rl.call rfl rfl rfl (CallW.val (r' := .agg (enc_TState false v3)) ok_impl_StateOf (law_impl_StateOf e3) (.cons (.lst ek_TItem) .nil) (ek_TState.flag _).agg ?_)
 refine rl.run 3 rfl (rl.done ?_)
 refine RW.gh (Gh.nil_t 6 8 rfl) ?_
 obtain ⟨y11, ey11, h5⟩ := bindS h3
 refine RW.cutq (σ := (List TRec)) (fun y5 => [(6, .sl 0 0 y5.length)]) (fun y5 => [some ⟨fl (enc_TRec true) y5, 8⟩]) (fun y => y11 = y) (fun _ _ _ _ g h => RW.gh g h) ?_ ?_
 ·refine RW.blk ?_
  refine RW.iter (σ := Int × (List TRec)) ey11 (fun s4 => [(5, .ptr 0 0), (6, .sl 1 0 s4.2.length), (17, .lst false 5 (fl (enc_TBox false) v3.Boxes) v3.Boxes.length), (18, .int .i64 (v3.Boxes.length : Int)), (19, .int .i64 s4.1)]) (fun s4 => [some ⟨[.lst false 5 (fl (enc_TBox false) v2.Boxes) v2.Boxes.length], 0⟩, some ⟨fl (enc_TRec true) s4.2, 8⟩]) (Gh.ren0 [0, 1] (.cells rfl rfl (.keep (ek_TBox.rlst) .nil) (.same rfl (ek_TRec.fref _ _) .nil)) rfl (.cons rfl (.ptr rfl) (.cons rfl (.slq rfl rfl) (.cons rfl (.dat (ek_TBox.rlst)) (.cons rfl (.dat .int) (.cons rfl (.dat .int) .nil)))))) (fun s4 B o hS4 hB4 hE4 => ?_)
  unfold S_impl_NextsOf_1 at hS4
  refine RW.sreg ?_
  refine rl.gen rfl rfl fun b hb => ?_
  cases b
  ·have h6 := iteBF hS4 hb
   refine rl.done (RW.seq (RW.cond_f rfl (RW.exit (blkA_eq ?_))))
   cases h6
   exact ⟨_, (hE4 _ rfl).symm, (Gh.ren0 [1] (.same rfl (ek_TRec.fref _ _) .nil) rfl (.cons rfl (.slq rfl rfl) .nil))⟩
  ·have h7 := iteBT hS4 hb
   refine rl.done (RW.seq (RW.cond_t rfl (RW.skip (RW.seq (RW.blk (RW.sreg ?_))))))
   obtain ⟨v6, e6, h8⟩ := bindS h7
   refine rl.op (x_ia_lst (enc := enc_TBox) (o := false) rfl rfl rfl e6) ?_
   refine rl.op (x_ld_ela (off' := 0) (vs := (enc_TBox false v6)) ek_TBox rfl e6 rfl rfl rfl) ?_
   refine rl.run 2 rfl (rl.done (RW.sreg (rl.run 3 rfl ?_)))
   obtain ⟨v7, e7, h9⟩ := bindS h8
   refine rl.call rfl rfl rfl (CallW.embR [2] ok_slices_IndexFunc_Box (law_slices_IndexFunc_Box_NextsOf_1 e7) (.cells rfl rfl (.keep .int (.keep .str (.keep .str (.keep .int (.keep (ek_TMail.rlst) .nil))))) .nil) rfl rfl (.cons (.dat (ek_TBox.rlst)) (.cons (RnL.fn (.cons (.ptr rfl) .nil)) .nil)) .int ?_)
   refine rl.run 1 rfl (rl.done (RW.seq ?_))
   obtain ⟨y8, ey8, h10⟩ := bindS h9
   refine RW.cutq (σ := Bool) (fun y8 => [(5, .ptr 0 0), (6, .sl 1 0 s4.2.length), (8, .ptr 2 0), (17, .lst false 5 (fl (enc_TBox false) v3.Boxes) v3.Boxes.length), (18, .int .i64 (v3.Boxes.length : Int)), (19, .int .i64 s4.1), (39, .bool y8)]) (fun y8 => [some ⟨[.lst false 5 (fl (enc_TBox false) v2.Boxes) v2.Boxes.length], 0⟩, some ⟨fl (enc_TRec true) s4.2, 8⟩, some ⟨[.int .i64 v6.Valid, .str v6.User, .str v6.Name, .int .i64 v6.Next, .lst false 3 (fl (enc_TMail false) v6.Mails) v6.Mails.length], 0⟩]) (fun y => y8 = y) (fun _ _ _ _ g h => RW.gh g h) ?_ ?_
   ·refine RW.drw ?_
    refine rdraw.op rfl rfl ?_
    refine rdraw.gen rfl rfl fun b hb => ?_
    cases b
    ·have h11 := iteBF ey8 hb
     refine rdraw.op rfl rfl (rdraw.op rfl rfl (rdraw.op rfl rfl (rdraw.op rfl rfl ?_)))
     obtain ⟨v9, e9, h12⟩ := bindS h11
     refine rdraw.op rfl (x_ia_lst (enc := enc_TBox) (o := false) rfl rfl rfl e9) ?_
     refine rdraw.op rfl rfl ?_
     refine rdraw.op rfl (x_ld_el (off' := 3) ek_TBox rfl e9 rfl rfl rfl) ?_
     refine rdraw.op rfl rfl (rdraw.op rfl rfl ?_)
     refine rdraw.gen rfl rfl fun b hb => ?_
     cases b
     ·have h13 := iteBF h12 hb
      refine rdraw.op rfl rfl (rdraw.done ?_)
      cases h13
      exact ⟨_, rfl, (Gh.ren0 [0, 1, 2] (.cells rfl rfl (.keep (ek_TBox.rlst) .nil) (.same rfl (ek_TRec.fref _ _) (.cells rfl rfl (.keep .int (.keep .str (.keep .str (.keep .int (.keep (ek_TMail.rlst) .nil))))) .nil))) rfl (.cons rfl (.ptr rfl) (.cons rfl (.slq rfl rfl) (.cons rfl (.ptr rfl) (.cons rfl (.dat (ek_TBox.rlst)) (.cons rfl (.dat .int) (.cons rfl (.dat .int) (.cons rfl (.dat .bool) .nil))))))))⟩
     ·have h14 := iteBT h12 hb
      refine rdraw.op rfl rfl (rdraw.done ?_)
      cases h14
      exact ⟨_, rfl, (Gh.ren0 [0, 1, 2] (.cells rfl rfl (.keep (ek_TBox.rlst) .nil) (.same rfl (ek_TRec.fref _ _) (.cells rfl rfl (.keep .int (.keep .str (.keep .str (.keep .int (.keep (ek_TMail.rlst) .nil))))) .nil))) rfl (.cons rfl (.ptr rfl) (.cons rfl (.slq rfl rfl) (.cons rfl (.ptr rfl) (.cons rfl (.dat (ek_TBox.rlst)) (.cons rfl (.dat .int) (.cons rfl (.dat .int) (.cons rfl (.dat .bool) .nil))))))))⟩
    ·have h15 := iteBT ey8 hb
     refine rdraw.op rfl rfl (rdraw.off rfl (rdraw.off rfl (rdraw.off rfl (rdraw.off rfl (rdraw.off rfl (rdraw.off rfl (rdraw.off rfl (rdraw.off rfl (rdraw.off rfl (rdraw.op rfl rfl (rdraw.done ?_)))))))))))
     cases h15
     exact ⟨_, rfl, (Gh.ren0 [0, 1, 2] (.cells rfl rfl (.keep (ek_TBox.rlst) .nil) (.same rfl (ek_TRec.fref _ _) (.cells rfl rfl (.keep .int (.keep .str (.keep .str (.keep .int (.keep (ek_TMail.rlst) .nil))))) .nil))) rfl (.cons rfl (.ptr rfl) (.cons rfl (.slq rfl rfl) (.cons rfl (.ptr rfl) (.cons rfl (.dat (ek_TBox.rlst)) (.cons rfl (.dat .int) (.cons rfl (.dat .int) (.cons rfl (.dat .bool) .nil))))))))⟩
   ·intro y hC
    subst hC
    cases hb : y8
    ·have h16 := iteBF h10 hb
     refine RW.cond_f rfl (RW.skip (RW.reg (rl.run 2 rfl (rl.done ?_))))
     cases h16
     exact hB4 _ rfl _ _ (Gh.ren0 [0, 1] (.cells rfl rfl (.keep (ek_TBox.rlst) .nil) (.same rfl (ek_TRec.fref _ _) .nil)) rfl (.cons rfl (.ptr rfl) (.cons rfl (.slq rfl rfl) (.cons rfl (.dat (ek_TBox.rlst)) (.cons rfl (.dat .int) (.cons rfl (.dat .int) .nil))))))
    ·have h17 := iteBT h10 hb
     refine RW.cond_t rfl (RW.reg (rl.run 11 rfl ?_))
     obtain ⟨v10, e10, h18⟩ := bindS h17
     refine rl.op (x_app rfl rfl (rapp_sl (l := s4.2) (m := [({ Kind := 1, Valid := v6.Valid, Uid := 0, Next := v6.Next, Flags := 0, User := v6.User, Name := v6.Name, Text := [] } : TRec)]) (o := true) ek_TRec rfl rfl (acont_slq (m := [({ Kind := 1, Valid := v6.Valid, Uid := 0, Next := v6.Next, Flags := 0, User := v6.User, Name := v6.Name, Text := [] } : TRec)]) (o := true) fk_TRec rfl rfl) rfl (fk_TRec.fst _ _) e10)) ?_
     refine rl.run 1 rfl (rl.done (RW.reg (rl.run 2 rfl (rl.done ?_))))
     cases h18
     exact hB4 _ rfl _ _ (Gh.ren0 [0, 4] (.cells rfl rfl (.keep (ek_TBox.rlst) .nil) (.same rfl (ek_TRec.fref _ _) .nil)) rfl (.cons rfl (.ptr rfl) (.cons rfl (.slq rfl rfl) (.cons rfl (.dat (ek_TBox.rlst)) (.cons rfl (.dat .int) (.cons rfl (.dat .int) .nil))))))
 ·intro y5 hC
  subst hC
  refine RW.sreg (rl.run 2 rfl (rl.done (RW.ret ?_)))
  cases h5
  exact RRet.mk rfl (OutR.ownq ek_TRec rfl rfl) (by first | decide | simp)
theorem law_laws_eqRecS {x0 : List TRec} {x1 : List TRec} {r : Bool} (hF : F_laws_eqRecS x0 x1 = some r) : PCalls Try.prog 18 [.lst false 8 (fl (enc_TRec false) x0) x0.length, .lst false 8 (fl (enc_TRec false) x1) x1.length] (.bool r) := by
 refine PCalls.of_r k_laws_eqRecS rfl ?_
 unfold F_laws_eqRecS at hF
 refine RW.sreg (rl.run 1 rfl (rl.done (RW.seq (RW.sreg (rl.run 4 rfl ?_)))))
 refine rl.gen rfl rfl fun b hb => ?_
 cases b
 ·have h1 := iteBF hF hb
  refine rl.done (RW.cond_f rfl (RW.skip (RW.seq (RW.sreg (rl.run 1 rfl (rl.done ?_))))))
  obtain ⟨y6, ey6, h3⟩ := bindS h1
  refine RW.cutq (σ := Unit) (fun y2 => []) (fun y2 => []) (fun y => y6 = .inr y) (fun _ _ _ _ g h => RW.gh g h) ?_ ?_
  ·refine RW.blk ?_
   refine RW.iter (σ := Int) ey6 (fun s1 => [(0, .lst false 8 (fl (enc_TRec false) x0) x0.length), (1, .lst false 8 (fl (enc_TRec false) x1) x1.length), (5, .int .i64 s1)]) (fun s1 => []) (Gh.ren0 [] .nil rfl (.cons rfl (.dat (ek_TRec.rlst)) (.cons rfl (.dat (ek_TRec.rlst)) (.cons rfl (.dat .int) .nil)))) (fun s1 B o hS2 hB2 hE2 => ?_)
   unfold S_laws_eqRecS_1 at hS2
   refine RW.seq (RW.sreg (rl.run 3 rfl ?_))
   refine rl.gen rfl rfl fun b hb => ?_
   cases b
   ·have h4 := iteBF hS2 hb
    refine rl.done (RW.cond_f rfl (RW.exit (blkA_eq ?_)))
    cases h4
    exact ⟨_, (hE2 _ rfl).symm, (Gh.ren0 [] .nil rfl .nil)⟩
   ·have h5 := iteBT hS2 hb
    refine rl.done (RW.cond_t rfl (RW.skip (RW.seq (RW.blk (RW.sdrw (rdraw.op rfl rfl (rdraw.op rfl rfl ?_)))))))
    obtain ⟨v3, e3, h6⟩ := bindS h5
    refine rdraw.op rfl (x_ia_lst (enc := enc_TRec) (o := false) rfl rfl rfl e3) ?_
    refine rdraw.op rfl (x_ld_ela (off' := 0) (vs := (enc_TRec false v3)) ek_TRec rfl e3 rfl rfl rfl) ?_
    refine rdraw.op rfl rfl (rdraw.op rfl rfl ?_)
    obtain ⟨v4, e4, h7⟩ := bindS h6
    refine rdraw.op rfl (x_ia_lst (enc := enc_TRec) (o := false) rfl rfl rfl e4) ?_
    refine rdraw.op rfl (x_ld_ela (off' := 0) (vs := (enc_TRec false v4)) ek_TRec rfl e4 rfl rfl rfl) ?_
    obtain ⟨v5, e5, h8⟩ := bindS h7
    refine rdraw.call rfl rfl rfl (CallW.val (r' := .bool v5) ok_laws_eqRec (law_laws_eqRec e5) (.cons (.dat (.agg (ek_TRec.dat false _))) (.cons (.dat (.agg (ek_TRec.dat false _))) .nil)) .refl ⟨rfl, ?_⟩)
    cases hb : v5
    ·have h9 := iteBF h8 hb
     refine rdraw.op rfl rfl (rdraw.done ?_)
     refine RW.keep [0, 1, 5, 26] (a' := [(0, .lst false 8 (fl (enc_TRec false) x0) x0.length), (1, .lst false 8 (fl (enc_TRec false) x1) x1.length), (5, .int .i64 s1), (26, .bool true)]) (H' := []) rfl rfl ?_
     refine RW.cond_t rfl (RW.sreg (rl.run 1 rfl (rl.done (RW.ret ?_))))
     cases h9
     have h10 := elimL h3 (hE2 _ rfl)
     cases h10
     exact RRet.mk rfl .bool (by first | decide | simp)
    ·have h11 := iteBT h8 hb
     refine rdraw.op rfl rfl (rdraw.done ?_)
     refine RW.keep [0, 1, 5, 26] (a' := [(0, .lst false 8 (fl (enc_TRec false) x0) x0.length), (1, .lst false 8 (fl (enc_TRec false) x1) x1.length), (5, .int .i64 s1), (26, .bool false)]) (H' := []) rfl rfl ?_
     refine RW.cond_f rfl (RW.skip (RW.reg (rl.run 3 rfl (rl.done ?_))))
     cases h11
     exact hB2 _ rfl _ _ (Gh.ren0 [] .nil rfl (.cons rfl (.dat (ek_TRec.rlst)) (.cons rfl (.dat (ek_TRec.rlst)) (.cons rfl (.dat .int) .nil))))
  ·intro y2 hC
   have h3 := elimR h3 hC
   refine RW.sreg (rl.run 1 rfl (rl.done (RW.ret ?_)))
   cases h3
   exact RRet.mk rfl .bool (by first | decide | simp)
 ·have h12 := iteBT hF hb
  refine rl.done (RW.cond_t rfl (RW.sreg (rl.run 1 rfl (rl.done (RW.ret ?_)))))
  cases h12
  exact RRet.mk rfl .bool (by first | decide | simp)
theorem law_laws_eqBoolS {x0 : List Bool} {x1 : List Bool} {r : Bool} (hF : F_laws_eqBoolS x0 x1 = some r) : PCalls Try.prog 19 [.lst false 1 (fl (encO false) x0) x0.length, .lst false 1 (fl (encO false) x1) x1.length] (.bool r) := by
 refine PCalls.of_r k_laws_eqBoolS rfl ?_
 unfold F_laws_eqBoolS at hF
 refine RW.sreg (rl.run 1 rfl (rl.done (RW.seq (RW.sreg (rl.run 4 rfl ?_)))))
 refine rl.gen rfl rfl fun b hb => ?_
 cases b
 ·have h1 := iteBF hF hb
  refine rl.done (RW.cond_f rfl (RW.skip (RW.seq (RW.sreg (rl.run 1 rfl (rl.done ?_))))))
  obtain ⟨y5, ey5, h3⟩ := bindS h1
  refine RW.cutq (σ := Unit) (fun y2 => []) (fun y2 => []) (fun y => y5 = .inr y) (fun _ _ _ _ g h => RW.gh g h) ?_ ?_
  ·refine RW.blk ?_
   refine RW.iter (σ := Int) ey5 (fun s1 => [(0, .lst false 1 (fl (encO false) x0) x0.length), (1, .lst false 1 (fl (encO false) x1) x1.length), (5, .int .i64 s1)]) (fun s1 => []) (Gh.ren0 [] .nil rfl (.cons rfl (.dat (ekO.rlst)) (.cons rfl (.dat (ekO.rlst)) (.cons rfl (.dat .int) .nil)))) (fun s1 B o hS2 hB2 hE2 => ?_)
   unfold S_laws_eqBoolS_1 at hS2
   refine RW.seq (RW.sreg (rl.run 3 rfl ?_))
   refine rl.gen rfl rfl fun b hb => ?_
   cases b
   ·have h4 := iteBF hS2 hb
    refine rl.done (RW.cond_f rfl (RW.exit (blkA_eq ?_)))
    cases h4
    exact ⟨_, (hE2 _ rfl).symm, (Gh.ren0 [] .nil rfl .nil)⟩
   ·have h5 := iteBT hS2 hb
    refine rl.done (RW.cond_t rfl (RW.skip (RW.seq (RW.blk (RW.sdrw (rdraw.op rfl rfl (rdraw.op rfl rfl ?_)))))))
    obtain ⟨v3, e3, h6⟩ := bindS h5
    refine rdraw.op rfl (x_ia_lst (enc := encO) (o := false) rfl rfl rfl e3) ?_
    refine rdraw.op rfl (x_ld_el (off' := 0) ekO rfl e3 rfl rfl rfl) ?_
    refine rdraw.op rfl rfl (rdraw.op rfl rfl ?_)
    obtain ⟨v4, e4, h7⟩ := bindS h6
    refine rdraw.op rfl (x_ia_lst (enc := encO) (o := false) rfl rfl rfl e4) ?_
    refine rdraw.op rfl (x_ld_el (off' := 0) ekO rfl e4 rfl rfl rfl) ?_
    refine rdraw.gen rfl rfl fun b hb => ?_
    cases b
    ·have h8 := iteBF h7 hb
     refine rdraw.done ?_
     refine RW.keep [0, 1, 5, 25] (a' := [(0, .lst false 1 (fl (encO false) x0) x0.length), (1, .lst false 1 (fl (encO false) x1) x1.length), (5, .int .i64 s1), (25, .bool false)]) (H' := []) rfl rfl ?_
     refine RW.cond_f rfl (RW.skip (RW.reg (rl.run 3 rfl (rl.done ?_))))
     cases h8
     exact hB2 _ rfl _ _ (Gh.ren0 [] .nil rfl (.cons rfl (.dat (ekO.rlst)) (.cons rfl (.dat (ekO.rlst)) (.cons rfl (.dat .int) .nil))))
    ·have h9 := iteBT h7 hb
     refine rdraw.done ?_
     refine RW.keep [0, 1, 5, 25] (a' := [(0, .lst false 1 (fl (encO false) x0) x0.length), (1, .lst false 1 (fl (encO false) x1) x1.length), (5, .int .i64 s1), (25, .bool true)]) (H' := []) rfl rfl ?_
     refine RW.cond_t rfl (RW.sreg (rl.run 1 rfl (rl.done (RW.ret ?_))))
     cases h9
     have h10 := elimL h3 (hE2 _ rfl)
     cases h10
     exact RRet.mk rfl .bool (by first | decide | simp)
  ·intro y2 hC
   have h3 := elimR h3 hC
   refine RW.sreg (rl.run 1 rfl (rl.done (RW.ret ?_)))
   cases h3
   exact RRet.mk rfl .bool (by first | decide | simp)
 ·have h11 := iteBT hF hb
  refine rl.done (RW.cond_t rfl (RW.sreg (rl.run 1 rfl (rl.done (RW.ret ?_)))))
  cases h11
  exact RRet.mk rfl .bool (by first | decide | simp)
theorem law_laws_markBoolS_w {x0 : List Bool} {x1 : Int} {r : Int × (List Bool)} (hF : F_laws_markBoolS_w x0 x1 = some r) : ACalls Try.prog 0 20 [.sl 0 0 x0.length, .int .i64 x1] [some ⟨fl (encO true) x0, 1⟩] (.int .i64 r.1) [some ⟨fl (encO true) r.2, 1⟩] := by
 refine ACalls.of_s k_laws_markBoolS rfl ?_
 unfold F_laws_markBoolS_w at hF
 refine RW.sreg (rl.run 1 rfl (rl.done (RW.seq (RW.sreg (rl.run 1 rfl (rl.done ?_))))))
 obtain ⟨y5, ey5, h2⟩ := bindS hF
 refine RW.cutq (σ := Int × (List Bool)) (fun y2 => [(1, .int .i64 y2.1)]) (fun y2 => [some ⟨fl (encO true) y2.2, 1⟩]) (fun y => y5 = y) (fun _ _ _ _ g h => RW.gh g h) ?_ ?_
 ·refine RW.blk ?_
  refine RW.iter (σ := Int × Int × (List Bool)) ey5 (fun s1 => [(0, .sl 0 0 s1.2.2.length), (1, .int .i64 s1.1), (5, .int .i64 s1.2.1)]) (fun s1 => [some ⟨fl (encO true) s1.2.2, 1⟩]) (Gh.renN [0] (.same rfl (ekO.fref _ _) .nil) rfl rfl rfl (.cons rfl (.slq rfl rfl) (.cons rfl (.dat .int) (.cons rfl (.dat .int) .nil)))) (fun s1 B o hS1 hB1 hE1 => ?_)
  unfold S_laws_markBoolS_w_1 at hS1
  refine RW.seq (RW.sreg (rl.run 3 rfl ?_))
  refine rl.gen rfl rfl fun b hb => ?_
  cases b
  ·have h3 := iteBF hS1 hb
   refine rl.done (RW.cond_f rfl (RW.exit (blkA_eq ?_)))
   cases h3
   exact ⟨_, (hE1 _ rfl).symm, (Gh.renN [0] (.same rfl (ekO.fref _ _) .nil) rfl rfl rfl (.cons rfl (.dat .int) .nil))⟩
  ·have h4 := iteBT hS1 hb
   refine rl.done (RW.cond_t rfl (RW.skip (RW.seq (RW.blk (RW.sreg (rl.run 5 rfl ?_))))))
   obtain ⟨v3, e3, h5⟩ := bindS h4
   refine rl.op (x_ia_sl rfl rfl rfl rfl e3) ?_
   obtain ⟨v4, e4, h6⟩ := bindS h5
   refine rl.op0 (x_st_sl' (off' := 0) (o := true) (e' := ((Int.tmod s1.1 3) == 0)) ekO e3 rfl rfl rfl rfl rfl rfl rfl rfl rfl e4) ?_
   refine rl.done (RW.reg (rl.run 3 rfl (rl.done (RW.reg (rl.run 3 rfl (rl.done ?_))))))
   cases h6
   exact hB1 _ rfl _ _ (Gh.renN [0] (.same rfl (ekO.fref _ _) .nil) rfl rfl rfl (.cons rfl (.slq rfl (set'_len e4)) (.cons rfl (.dat .int) (.cons rfl (.dat .int) .nil))))
 ·intro y2 hC
  subst hC
  refine RW.sreg (rl.run 2 rfl (rl.done (RW.ret ?_)))
  cases h2
  exact RRetS.mk rfl .int (Gh.renN [0] (.same rfl (ekO.fref _ _) .nil) rfl rfl rfl .nil)
set_option maxHeartbeats 2000000 in
theorem law_laws_markRecS_w {x0 : List TRec} {x1 : Int} {r : Int × (List TRec)} (hF : F_laws_markRecS_w x0 x1 = some r) : ACalls Try.prog 0 21 [.sl 0 0 x0.length, .int .i64 x1] [some ⟨fl (enc_TRec true) x0, 8⟩] (.int .i64 r.1) [some ⟨fl (enc_TRec true) r.2, 8⟩] := by
 refine ACalls.of_s k_laws_markRecS rfl ?_
 unfold F_laws_markRecS_w at hF
 refine RW.sreg (rl.run 1 rfl (rl.done (RW.seq (RW.sreg (rl.run 1 rfl (rl.done ?_))))))
 obtain ⟨y22, ey22, h2⟩ := bindS hF
 refine RW.cutq (σ := Int × (List TRec)) (fun y2 => [(1, .int .i64 y2.1)]) (fun y2 => [some ⟨fl (enc_TRec true) y2.2, 8⟩]) (fun y => y22 = y) (fun _ _ _ _ g h => RW.gh g h) ?_ ?_
 ·refine RW.blk ?_
  refine RW.iter (σ := Int × Int × (List TRec)) ey22 (fun s1 => [(0, .sl 0 0 s1.2.2.length), (1, .int .i64 s1.1), (5, .int .i64 s1.2.1)]) (fun s1 => [some ⟨fl (enc_TRec true) s1.2.2, 8⟩]) (Gh.renN [0] (.same rfl (ek_TRec.fref _ _) .nil) rfl rfl rfl (.cons rfl (.slq rfl rfl) (.cons rfl (.dat .int) (.cons rfl (.dat .int) .nil)))) (fun s1 B o hS1 hB1 hE1 => ?_)
  unfold S_laws_markRecS_w_1 at hS1
  refine RW.seq (RW.sreg (rl.run 3 rfl ?_))
  refine rl.gen rfl rfl fun b hb => ?_
  cases b
  ·have h3 := iteBF hS1 hb
   refine rl.done (RW.cond_f rfl (RW.exit (blkA_eq ?_)))
   cases h3
   exact ⟨_, (hE1 _ rfl).symm, (Gh.renN [0] (.same rfl (ek_TRec.fref _ _) .nil) rfl rfl rfl (.cons rfl (.dat .int) .nil))⟩
  ·have h4 := iteBT hS1 hb
   refine rl.done (RW.cond_t rfl (RW.skip (RW.seq (RW.blk (RW.sreg (rl.run 3 rfl ?_))))))
   obtain ⟨v3, e3, h5⟩ := bindS h4
   refine rl.op (x_ia_sl rfl rfl rfl rfl e3) ?_
   refine rl.run 1 rfl ?_
   obtain ⟨v4, e4, h6⟩ := bindS h5
   refine rl.op0 (x_st_sl' (off' := 0) (o := true) (e' := ({ Kind := s1.1, Valid := v3.Valid, Uid := v3.Uid, Next := v3.Next, Flags := v3.Flags, User := v3.User, Name := v3.Name, Text := v3.Text } : TRec)) ek_TRec e3 rfl rfl rfl rfl rfl rfl rfl rfl rfl e4) ?_
   refine rl.done (RW.sreg (rl.run 3 rfl (rl.done ?_)))
   refine RW.keep [0, 1, 5] (a' := [(0, .sl 0 0 s1.2.2.length), (1, .int .i64 (w64 (s1.1 + 1))), (5, .int .i64 s1.2.1)]) (H' := [some ⟨fl (enc_TRec true) v4, 8⟩]) rfl rfl ?_
   refine RW.sreg (rl.run 3 rfl ?_)
   obtain ⟨v5, e5, h7⟩ := bindS h6
   refine rl.op (x_ia_sl rfl rfl rfl (set'_len e4) e5) ?_
   refine rl.run 1 rfl ?_
   obtain ⟨v6, e6, h8⟩ := bindS h7
   refine rl.op0 (x_st_sl' (off' := 1) (o := true) (e' := ({ Kind := v5.Kind, Valid := w64 (s1.1 + 1), Uid := v5.Uid, Next := v5.Next, Flags := v5.Flags, User := v5.User, Name := v5.Name, Text := v5.Text } : TRec)) ek_TRec e5 rfl rfl rfl rfl rfl rfl rfl rfl rfl e6) ?_
   refine rl.done (RW.sreg (rl.run 3 rfl (rl.done (RW.sreg (rl.run 3 rfl ?_)))))
   obtain ⟨v7, e7, h9⟩ := bindS h8
   refine rl.op (x_ia_sl rfl rfl rfl ((set'_len e4).trans (set'_len e6)) e7) ?_
   refine rl.run 1 rfl ?_
   obtain ⟨v8, e8, h10⟩ := bindS h9
   refine rl.op0 (x_st_sl' (off' := 2) (o := true) (e' := ({ Kind := v7.Kind, Valid := v7.Valid, Uid := w64 ((w64 (s1.1 + 1)) + 1), Next := v7.Next, Flags := v7.Flags, User := v7.User, Name := v7.Name, Text := v7.Text } : TRec)) ek_TRec e7 rfl rfl rfl rfl rfl rfl rfl rfl rfl e8) ?_
   refine rl.done ?_
   refine RW.keep [0, 1, 5] (a' := [(0, .sl 0 0 s1.2.2.length), (1, .int .i64 (w64 ((w64 (s1.1 + 1)) + 1))), (5, .int .i64 s1.2.1)]) (H' := [some ⟨fl (enc_TRec true) v8, 8⟩]) rfl rfl ?_
   refine RW.sreg (rl.run 3 rfl (rl.done (RW.sreg (rl.run 3 rfl ?_))))
   obtain ⟨v9, e9, h11⟩ := bindS h10
   refine rl.op (x_ia_sl rfl rfl rfl (((set'_len e4).trans (set'_len e6)).trans (set'_len e8)) e9) ?_
   refine rl.run 1 rfl ?_
   obtain ⟨v10, e10, h12⟩ := bindS h11
   refine rl.op0 (x_st_sl' (off' := 3) (o := true) (e' := ({ Kind := v9.Kind, Valid := v9.Valid, Uid := v9.Uid, Next := w64 ((w64 ((w64 (s1.1 + 1)) + 1)) + 1), Flags := v9.Flags, User := v9.User, Name := v9.Name, Text := v9.Text } : TRec)) ek_TRec e9 rfl rfl rfl rfl rfl rfl rfl rfl rfl e10) ?_
   refine rl.done (RW.sreg (rl.run 3 rfl (rl.done (RW.sreg (rl.run 3 rfl ?_)))))
   obtain ⟨v11, e11, h13⟩ := bindS h12
   refine rl.op (x_ia_sl rfl rfl rfl ((((set'_len e4).trans (set'_len e6)).trans (set'_len e8)).trans (set'_len e10)) e11) ?_
   refine rl.run 1 rfl ?_
   obtain ⟨v12, e12, h14⟩ := bindS h13
   refine rl.op0 (x_st_sl' (off' := 4) (o := true) (e' := ({ Kind := v11.Kind, Valid := v11.Valid, Uid := v11.Uid, Next := v11.Next, Flags := w64 ((w64 ((w64 ((w64 (s1.1 + 1)) + 1)) + 1)) + 1), User := v11.User, Name := v11.Name, Text := v11.Text } : TRec)) ek_TRec e11 rfl rfl rfl rfl rfl rfl rfl rfl rfl e12) ?_
   refine rl.done ?_
   refine RW.keep [0, 1, 5] (a' := [(0, .sl 0 0 s1.2.2.length), (1, .int .i64 (w64 ((w64 ((w64 ((w64 (s1.1 + 1)) + 1)) + 1)) + 1))), (5, .int .i64 s1.2.1)]) (H' := [some ⟨fl (enc_TRec true) v12, 8⟩]) rfl rfl ?_
   refine RW.sreg (rl.run 3 rfl (rl.done (RW.sreg (rl.run 3 rfl ?_))))
   obtain ⟨v13, e13, h15⟩ := bindS h14
   refine rl.call rfl rfl rfl (CallW.val (r' := .str v13) ok_laws_markText (law_laws_markText e13) (.cons .int .nil) .refl ?_)
   obtain ⟨v14, e14, h16⟩ := bindS h15
   refine rl.op (x_ia_sl rfl rfl rfl (((((set'_len e4).trans (set'_len e6)).trans (set'_len e8)).trans (set'_len e10)).trans (set'_len e12)) e14) ?_
   refine rl.run 1 rfl ?_
   obtain ⟨v15, e15, h17⟩ := bindS h16
   refine rl.op0 (x_st_sl' (off' := 5) (o := true) (e' := ({ Kind := v14.Kind, Valid := v14.Valid, Uid := v14.Uid, Next := v14.Next, Flags := v14.Flags, User := v13, Name := v14.Name, Text := v14.Text } : TRec)) ek_TRec e14 rfl rfl rfl rfl rfl rfl rfl rfl rfl e15) ?_
   refine rl.done (RW.sreg (rl.run 3 rfl (rl.done (RW.sreg (rl.run 3 rfl ?_)))))
   obtain ⟨v16, e16, h18⟩ := bindS h17
   refine rl.call rfl rfl rfl (CallW.val (r' := .str v16) ok_laws_markText (law_laws_markText e16) (.cons .int .nil) .refl ?_)
   obtain ⟨v17, e17, h19⟩ := bindS h18
   refine rl.op (x_ia_sl rfl rfl rfl ((((((set'_len e4).trans (set'_len e6)).trans (set'_len e8)).trans (set'_len e10)).trans (set'_len e12)).trans (set'_len e15)) e17) ?_
   refine rl.run 1 rfl ?_
   obtain ⟨v18, e18, h20⟩ := bindS h19
   refine rl.op0 (x_st_sl' (off' := 6) (o := true) (e' := ({ Kind := v17.Kind, Valid := v17.Valid, Uid := v17.Uid, Next := v17.Next, Flags := v17.Flags, User := v17.User, Name := v16, Text := v17.Text } : TRec)) ek_TRec e17 rfl rfl rfl rfl rfl rfl rfl rfl rfl e18) ?_
   refine rl.done ?_
   refine RW.keep [0, 1, 5] (a' := [(0, .sl 0 0 s1.2.2.length), (1, .int .i64 (w64 ((w64 ((w64 ((w64 ((w64 ((w64 (s1.1 + 1)) + 1)) + 1)) + 1)) + 1)) + 1))), (5, .int .i64 s1.2.1)]) (H' := [some ⟨fl (enc_TRec true) v18, 8⟩]) rfl rfl ?_
   refine RW.sreg (rl.run 3 rfl (rl.done (RW.sreg (rl.run 3 rfl ?_))))
   obtain ⟨v19, e19, h21⟩ := bindS h20
   refine rl.call rfl rfl rfl (CallW.val (r' := .str v19) ok_laws_markText (law_laws_markText e19) (.cons .int .nil) .refl ?_)
   obtain ⟨v20, e20, h22⟩ := bindS h21
   refine rl.op (x_ia_sl rfl rfl rfl (((((((set'_len e4).trans (set'_len e6)).trans (set'_len e8)).trans (set'_len e10)).trans (set'_len e12)).trans (set'_len e15)).trans (set'_len e18)) e20) ?_
   refine rl.run 1 rfl ?_
   obtain ⟨v21, e21, h23⟩ := bindS h22
   refine rl.op0 (x_st_sl' (off' := 7) (o := true) (e' := ({ Kind := v20.Kind, Valid := v20.Valid, Uid := v20.Uid, Next := v20.Next, Flags := v20.Flags, User := v20.User, Name := v20.Name, Text := v19 } : TRec)) ek_TRec e20 rfl rfl rfl rfl rfl rfl rfl rfl rfl e21) ?_
   refine rl.done (RW.reg (rl.run 3 rfl (rl.done (RW.reg (rl.run 3 rfl (rl.done ?_))))))
   cases h23
   exact hB1 _ rfl _ _ (Gh.renN [0] (.same rfl (ek_TRec.fref _ _) .nil) rfl rfl rfl (.cons rfl (.slq rfl ((((((((set'_len e4).trans (set'_len e6)).trans (set'_len e8)).trans (set'_len e10)).trans (set'_len e12)).trans (set'_len e15)).trans (set'_len e18)).trans (set'_len e21))) (.cons rfl (.dat .int) (.cons rfl (.dat .int) .nil))))
 ·intro y2 hC
  subst hC
  refine RW.sreg (rl.run 2 rfl (rl.done (RW.ret ?_)))
  cases h2
  exact RRetS.mk rfl .int (Gh.renN [0] (.same rfl (ek_TRec.fref _ _) .nil) rfl rfl rfl .nil)
set_option maxHeartbeats 2000000 in
theorem law_laws_heldRecS {x0 : List TRec} {x1 : Int} {r : Int} (hF : F_laws_heldRecS x0 x1 = some r) : PCalls Try.prog 22 [.lst false 8 (fl (enc_TRec false) x0) x0.length, .int .i64 x1] (.int .i64 r) := by
 refine PCalls.of_r k_laws_heldRecS rfl ?_
 unfold F_laws_heldRecS at hF
 refine RW.sreg (rl.run 1 rfl (rl.done (RW.seq (RW.sreg (rl.run 1 rfl (rl.done ?_))))))
 obtain ⟨y14, ey14, h2⟩ := bindS hF
 refine RW.cutq (σ := Int) (fun y2 => [(1, .int .i64 y2)]) (fun y2 => []) (fun y => y14 = .inr y) (fun _ _ _ _ g h => RW.gh g h) ?_ ?_
 ·refine RW.blk ?_
  refine RW.iter (σ := Int × Int) ey14 (fun s1 => [(0, .lst false 8 (fl (enc_TRec false) x0) x0.length), (1, .int .i64 s1.1), (5, .int .i64 s1.2)]) (fun s1 => []) (Gh.ren0 [] .nil rfl (.cons rfl (.dat (ek_TRec.rlst)) (.cons rfl (.dat .int) (.cons rfl (.dat .int) .nil)))) (fun s1 B o hS1 hB1 hE1 => ?_)
  unfold S_laws_heldRecS_1 at hS1
  refine RW.seq (RW.sreg (rl.run 3 rfl ?_))
  refine rl.gen rfl rfl fun b hb => ?_
  cases b
  ·have h3 := iteBF hS1 hb
   refine rl.done (RW.cond_f rfl (RW.exit (blkA_eq ?_)))
   cases h3
   exact ⟨_, (hE1 _ rfl).symm, (Gh.ren0 [] .nil rfl (.cons rfl (.dat .int) .nil))⟩
  ·have h4 := iteBT hS1 hb
   refine rl.done (RW.cond_t rfl (RW.skip (RW.seq (RW.blk (RW.seq (RW.sreg (rl.run 2 rfl ?_)))))))
   obtain ⟨v3, e3, h5⟩ := bindS h4
   refine rl.op (x_ia_lst (enc := enc_TRec) (o := false) rfl rfl rfl e3) ?_
   refine rl.run 1 rfl ?_
   refine rl.op (x_ld_el (off' := 0) ek_TRec rfl e3 rfl rfl rfl) ?_
   refine rl.run 1 rfl ?_
   refine rl.gen rfl rfl fun b hb => ?_
   cases b
   ·have h6 := iteBF h5 hb
    refine rl.done (RW.cond_f rfl (RW.skip (RW.sreg (rl.run 3 rfl (rl.done ?_)))))
    refine RW.keep [0, 1, 5] (a' := [(0, .lst false 8 (fl (enc_TRec false) x0) x0.length), (1, .int .i64 (w64 (s1.1 + 1))), (5, .int .i64 s1.2)]) (H' := []) rfl rfl ?_
    refine RW.seq (RW.sreg (rl.run 2 rfl ?_))
    obtain ⟨v4, e4, h7⟩ := bindS h6
    refine rl.op (x_ia_lst (enc := enc_TRec) (o := false) rfl rfl rfl e4) ?_
    refine rl.run 1 rfl ?_
    refine rl.op (x_ld_el (off' := 1) ek_TRec rfl e4 rfl rfl rfl) ?_
    refine rl.run 1 rfl ?_
    refine rl.gen rfl rfl fun b hb => ?_
    cases b
    ·have h8 := iteBF h7 hb
     refine rl.done (RW.cond_f rfl (RW.skip (RW.sreg (rl.run 3 rfl (rl.done (RW.seq (RW.sreg (rl.run 2 rfl ?_))))))))
     obtain ⟨v5, e5, h9⟩ := bindS h8
     refine rl.op (x_ia_lst (enc := enc_TRec) (o := false) rfl rfl rfl e5) ?_
     refine rl.run 1 rfl ?_
     refine rl.op (x_ld_el (off' := 2) ek_TRec rfl e5 rfl rfl rfl) ?_
     refine rl.run 1 rfl ?_
     refine rl.gen rfl rfl fun b hb => ?_
     cases b
     ·have h10 := iteBF h9 hb
      refine rl.done ?_
      refine RW.keep [0, 1, 5, 36] (a' := [(0, .lst false 8 (fl (enc_TRec false) x0) x0.length), (1, .int .i64 (w64 ((w64 (s1.1 + 1)) + 1))), (5, .int .i64 s1.2), (36, .bool false)]) (H' := []) rfl rfl ?_
      refine RW.cond_f rfl (RW.skip (RW.sreg (rl.run 3 rfl (rl.done (RW.seq (RW.sreg (rl.run 2 rfl ?_)))))))
      obtain ⟨v6, e6, h11⟩ := bindS h10
      refine rl.op (x_ia_lst (enc := enc_TRec) (o := false) rfl rfl rfl e6) ?_
      refine rl.run 1 rfl ?_
      refine rl.op (x_ld_el (off' := 3) ek_TRec rfl e6 rfl rfl rfl) ?_
      refine rl.run 1 rfl ?_
      refine rl.gen rfl rfl fun b hb => ?_
      cases b
      ·have h12 := iteBF h11 hb
       refine rl.done (RW.cond_f rfl (RW.skip (RW.sreg (rl.run 3 rfl (rl.done ?_)))))
       refine RW.keep [0, 1, 5] (a' := [(0, .lst false 8 (fl (enc_TRec false) x0) x0.length), (1, .int .i64 (w64 ((w64 ((w64 ((w64 (s1.1 + 1)) + 1)) + 1)) + 1))), (5, .int .i64 s1.2)]) (H' := []) rfl rfl ?_
       refine RW.seq (RW.sreg (rl.run 2 rfl ?_))
       obtain ⟨v7, e7, h13⟩ := bindS h12
       refine rl.op (x_ia_lst (enc := enc_TRec) (o := false) rfl rfl rfl e7) ?_
       refine rl.run 1 rfl ?_
       refine rl.op (x_ld_el (off' := 4) ek_TRec rfl e7 rfl rfl rfl) ?_
       refine rl.run 1 rfl ?_
       refine rl.gen rfl rfl fun b hb => ?_
       cases b
       ·have h14 := iteBF h13 hb
        refine rl.done (RW.cond_f rfl (RW.skip (RW.sreg (rl.run 3 rfl (rl.done (RW.seq (RW.sdrw (rdraw.op rfl rfl (rdraw.op rfl rfl ?_)))))))))
        obtain ⟨v8, e8, h15⟩ := bindS h14
        refine rdraw.op rfl (x_ia_lst (enc := enc_TRec) (o := false) rfl rfl rfl e8) ?_
        refine rdraw.op rfl rfl ?_
        refine rdraw.op rfl (x_ld_el (off' := 5) ek_TRec rfl e8 rfl rfl rfl) ?_
        refine rdraw.op rfl rfl ?_
        obtain ⟨v9, e9, h16⟩ := bindS h15
        refine rdraw.call rfl rfl rfl (CallW.val (r' := .str v9) ok_laws_markText (law_laws_markText e9) (.cons .int .nil) .refl ⟨rfl, ?_⟩)
        refine rdraw.gen rfl rfl fun b hb => ?_
        cases b
        ·have h17 := iteBF h16 hb
         refine rdraw.done ?_
         refine RW.keep [0, 1, 5, 64] (a' := [(0, .lst false 8 (fl (enc_TRec false) x0) x0.length), (1, .int .i64 (w64 ((w64 ((w64 ((w64 ((w64 (s1.1 + 1)) + 1)) + 1)) + 1)) + 1))), (5, .int .i64 s1.2), (64, .bool false)]) (H' := []) rfl rfl ?_
         refine RW.cond_f rfl (RW.skip (RW.sreg (rl.run 3 rfl (rl.done (RW.seq (RW.sdrw (rdraw.op rfl rfl (rdraw.op rfl rfl ?_))))))))
         obtain ⟨v10, e10, h18⟩ := bindS h17
         refine rdraw.op rfl (x_ia_lst (enc := enc_TRec) (o := false) rfl rfl rfl e10) ?_
         refine rdraw.op rfl rfl ?_
         refine rdraw.op rfl (x_ld_el (off' := 6) ek_TRec rfl e10 rfl rfl rfl) ?_
         refine rdraw.op rfl rfl ?_
         obtain ⟨v11, e11, h19⟩ := bindS h18
         refine rdraw.call rfl rfl rfl (CallW.val (r' := .str v11) ok_laws_markText (law_laws_markText e11) (.cons .int .nil) .refl ⟨rfl, ?_⟩)
         refine rdraw.gen rfl rfl fun b hb => ?_
         cases b
         ·have h20 := iteBF h19 hb
          refine rdraw.done (RW.cond_f rfl (RW.skip (RW.sreg (rl.run 3 rfl (rl.done ?_)))))
          refine RW.keep [0, 1, 5] (a' := [(0, .lst false 8 (fl (enc_TRec false) x0) x0.length), (1, .int .i64 (w64 ((w64 ((w64 ((w64 ((w64 ((w64 ((w64 (s1.1 + 1)) + 1)) + 1)) + 1)) + 1)) + 1)) + 1))), (5, .int .i64 s1.2)]) (H' := []) rfl rfl ?_
          refine RW.seq (RW.sdrw (rdraw.op rfl rfl (rdraw.op rfl rfl ?_)))
          obtain ⟨v12, e12, h21⟩ := bindS h20
          refine rdraw.op rfl (x_ia_lst (enc := enc_TRec) (o := false) rfl rfl rfl e12) ?_
          refine rdraw.op rfl rfl ?_
          refine rdraw.op rfl (x_ld_el (off' := 7) ek_TRec rfl e12 rfl rfl rfl) ?_
          refine rdraw.op rfl rfl ?_
          obtain ⟨v13, e13, h22⟩ := bindS h21
          refine rdraw.call rfl rfl rfl (CallW.val (r' := .str v13) ok_laws_markText (law_laws_markText e13) (.cons .int .nil) .refl ⟨rfl, ?_⟩)
          refine rdraw.gen rfl rfl fun b hb => ?_
          cases b
          ·have h23 := iteBF h22 hb
           refine rdraw.done (RW.cond_f rfl (RW.skip (RW.reg (rl.run 3 rfl (rl.done (RW.reg (rl.run 3 rfl (rl.done ?_))))))))
           cases h23
           exact hB1 _ rfl _ _ (Gh.ren0 [] .nil rfl (.cons rfl (.dat (ek_TRec.rlst)) (.cons rfl (.dat .int) (.cons rfl (.dat .int) .nil))))
          ·have h24 := iteBT h22 hb
           refine rdraw.done (RW.cond_t rfl (RW.sreg (rl.run 1 rfl (rl.done ?_))))
           refine RW.keep [4] (a' := [(4, .int .i64 (-1))]) (H' := []) rfl rfl ?_
           refine RW.ret ?_
           cases h24
           have h25 := elimL h2 (hE1 _ rfl)
           cases h25
           exact RRet.mk rfl .int (by first | decide | simp)
         ·have h26 := iteBT h19 hb
          refine rdraw.done (RW.cond_t rfl (RW.sreg (rl.run 1 rfl (rl.done ?_))))
          refine RW.keep [4] (a' := [(4, .int .i64 (-1))]) (H' := []) rfl rfl ?_
          refine RW.ret ?_
          cases h26
          have h27 := elimL h2 (hE1 _ rfl)
          cases h27
          exact RRet.mk rfl .int (by first | decide | simp)
        ·have h28 := iteBT h16 hb
         refine rdraw.done ?_
         refine RW.keep [0, 1, 5, 64] (a' := [(0, .lst false 8 (fl (enc_TRec false) x0) x0.length), (1, .int .i64 (w64 ((w64 ((w64 ((w64 ((w64 (s1.1 + 1)) + 1)) + 1)) + 1)) + 1))), (5, .int .i64 s1.2), (64, .bool true)]) (H' := []) rfl rfl ?_
         refine RW.cond_t rfl (RW.sreg (rl.run 1 rfl (rl.done (RW.ret ?_))))
         cases h28
         have h29 := elimL h2 (hE1 _ rfl)
         cases h29
         exact RRet.mk rfl .int (by first | decide | simp)
       ·have h30 := iteBT h13 hb
        refine rl.done (RW.cond_t rfl (RW.sreg (rl.run 1 rfl (rl.done (RW.ret ?_)))))
        cases h30
        have h31 := elimL h2 (hE1 _ rfl)
        cases h31
        exact RRet.mk rfl .int (by first | decide | simp)
      ·have h32 := iteBT h11 hb
       refine rl.done (RW.cond_t rfl (RW.sreg (rl.run 1 rfl (rl.done ?_))))
       refine RW.keep [4] (a' := [(4, .int .i64 (-1))]) (H' := []) rfl rfl ?_
       refine RW.ret ?_
       cases h32
       have h33 := elimL h2 (hE1 _ rfl)
       cases h33
       exact RRet.mk rfl .int (by first | decide | simp)
     ·have h34 := iteBT h9 hb
      refine rl.done ?_
      refine RW.keep [0, 1, 5, 36] (a' := [(0, .lst false 8 (fl (enc_TRec false) x0) x0.length), (1, .int .i64 (w64 ((w64 (s1.1 + 1)) + 1))), (5, .int .i64 s1.2), (36, .bool true)]) (H' := []) rfl rfl ?_
      refine RW.cond_t rfl (RW.sreg (rl.run 1 rfl (rl.done (RW.ret ?_))))
      cases h34
      have h35 := elimL h2 (hE1 _ rfl)
      cases h35
      exact RRet.mk rfl .int (by first | decide | simp)
    ·have h36 := iteBT h7 hb
     refine rl.done (RW.cond_t rfl (RW.sreg (rl.run 1 rfl (rl.done (RW.ret ?_)))))
     cases h36
     have h37 := elimL h2 (hE1 _ rfl)
     cases h37
     exact RRet.mk rfl .int (by first | decide | simp)
   ·have h38 := iteBT h5 hb
    refine rl.done (RW.cond_t rfl (RW.sreg (rl.run 1 rfl (rl.done ?_))))
    refine RW.keep [4] (a' := [(4, .int .i64 (-1))]) (H' := []) rfl rfl ?_
    refine RW.ret ?_
    cases h38
    have h39 := elimL h2 (hE1 _ rfl)
    cases h39
    exact RRet.mk rfl .int (by first | decide | simp)
 ·intro y2 hC
  have h2 := elimR h2 hC
  refine RW.sreg (rl.run 2 rfl (rl.done (RW.ret ?_)))
  cases h2
  exact RRet.mk rfl .int (by first | decide | simp)
theorem law_laws_szRec {x0 : TRec} {x1 : Int} {r : Int} (hF : F_laws_szRec x0 x1 = some r) : PCalls Try.prog 52 [.agg (enc_TRec false x0), .int .i64 x1] (.int .i64 r) := by
 refine PCalls.of_r k_laws_szRec rfl ?_
 unfold F_laws_szRec at hF
 refine RW.sreg (rl.run 2 rfl (rl.done (RW.sreg (rl.run 6 rfl (rl.done (RW.seq (RW.sreg (rl.run 1 rfl ?_))))))))
 refine rl.gen rfl rfl fun b hb => ?_
 cases b
 ·have h1 := iteBF hF hb
  refine rl.done (RW.cond_f rfl (RW.skip (RW.sreg (rl.run 6 rfl (rl.done ?_)))))
  refine RW.keep [1, 2] (a' := [(1, .int .i64 (w64 ((w64 (x1 - (x0.User.length : Int))) - (x0.Name.length : Int)))), (2, .ptr 0 0)]) (H' := [some ⟨[.int .i64 x0.Kind, .int .i64 x0.Valid, .int .i64 x0.Uid, .int .i64 x0.Next, .int .i64 x0.Flags, .str x0.User, .str x0.Name, .str x0.Text], 0⟩]) rfl rfl ?_
  refine RW.seq (RW.sreg (rl.run 1 rfl ?_))
  refine rl.gen rfl rfl fun b hb => ?_
  cases b
  ·have h2 := iteBF h1 hb
   refine rl.done (RW.cond_f rfl (RW.skip (RW.sreg (rl.run 6 rfl (rl.done (RW.seq (RW.sreg (rl.run 1 rfl ?_))))))))
   refine rl.gen rfl rfl fun b hb => ?_
   cases b
   ·have h3 := iteBF h2 hb
    refine rl.done (RW.cond_f rfl (RW.skip (RW.sreg (rl.run 2 rfl (rl.done ?_)))))
    refine RW.keep [4] (a' := [(4, .int .i64 (w64 ((w64 ((w64 (x1 - (x0.User.length : Int))) - (x0.Name.length : Int))) - (x0.Text.length : Int))))]) (H' := [some ⟨[.int .i64 x0.Kind, .int .i64 x0.Valid, .int .i64 x0.Uid, .int .i64 x0.Next, .int .i64 x0.Flags, .str x0.User, .str x0.Name, .str x0.Text], 0⟩]) rfl rfl ?_
    refine RW.ret ?_
    cases h3
    exact RRet.mk rfl .int (by first | decide | simp)
   ·have h4 := iteBT h2 hb
    refine rl.done (RW.cond_t rfl (RW.sreg (rl.run 1 rfl (rl.done ?_))))
    refine RW.keep [4] (a' := [(4, .int .i64 (-1))]) (H' := [some ⟨[.int .i64 x0.Kind, .int .i64 x0.Valid, .int .i64 x0.Uid, .int .i64 x0.Next, .int .i64 x0.Flags, .str x0.User, .str x0.Name, .str x0.Text], 0⟩]) rfl rfl ?_
    refine RW.ret ?_
    cases h4
    exact RRet.mk rfl .int (by first | decide | simp)
  ·have h5 := iteBT h1 hb
   refine rl.done (RW.cond_t rfl (RW.sreg (rl.run 1 rfl (rl.done (RW.ret ?_)))))
   cases h5
   exact RRet.mk rfl .int (by first | decide | simp)
 ·have h6 := iteBT hF hb
  refine rl.done (RW.cond_t rfl (RW.sreg (rl.run 1 rfl (rl.done (RW.ret ?_)))))
  cases h6
  exact RRet.mk rfl .int (by first | decide | simp)
theorem law_laws_szItem {x0 : TItem} {x1 : Int} {r : Int} (hF : F_laws_szItem x0 x1 = some r) : PCalls Try.prog 26 [.agg (enc_TItem false x0), .int .i64 x1] (.int .i64 r) := by
 refine PCalls.of_r k_laws_szItem rfl ?_
 unfold F_laws_szItem at hF
 refine RW.sreg (rl.run 2 rfl (rl.done (RW.sreg (rl.run 3 rfl ?_))))
 obtain ⟨v1, e1, h1⟩ := bindS hF
 refine rl.call rfl rfl rfl (CallW.val (r' := .int .i64 v1) ok_laws_szRec (law_laws_szRec e1) (.cons (DFL.agg (.cons .int (.cons .int (.cons .int (.cons .int (.cons .int (.cons .str (.cons .str (.cons .str .nil))))))))) (.cons .int .nil)) .refl ?_)
 refine rl.run 1 rfl (rl.done (RW.seq (RW.sreg (rl.run 1 rfl ?_))))
 refine rl.gen rfl rfl fun b hb => ?_
 cases b
 ·have h2 := iteBF h1 hb
  refine rl.done (RW.cond_f rfl (RW.skip (RW.sreg (rl.run 2 rfl (rl.done (RW.ret ?_))))))
  cases h2
  exact RRet.mk rfl .int (by first | decide | simp)
 ·have h3 := iteBT h1 hb
  refine rl.done (RW.cond_t rfl (RW.sreg (rl.run 1 rfl (rl.done (RW.ret ?_)))))
  cases h3
  exact RRet.mk rfl .int (by first | decide | simp)
theorem law_laws_szItemS {x0 : List TItem} {x1 : Int} {r : Int} (hF : F_laws_szItemS x0 x1 = some r) : PCalls Try.prog 6 [.lst false 9 (fl (enc_TItem false) x0) x0.length, .int .i64 x1] (.int .i64 r) := by
 refine PCalls.of_r k_laws_szItemS rfl ?_
 unfold F_laws_szItemS at hF
 refine RW.sreg (rl.run 1 rfl (rl.done (RW.sreg (rl.run 5 rfl (rl.done (RW.seq (RW.sreg (rl.run 1 rfl ?_))))))))
 refine rl.gen rfl rfl fun b hb => ?_
 cases b
 ·have h1 := iteBF hF hb
  refine rl.done (RW.cond_f rfl (RW.skip (RW.seq (RW.sreg (rl.run 1 rfl (rl.done ?_))))))
  obtain ⟨y5, ey5, h3⟩ := bindS h1
  refine RW.cutq (σ := Int) (fun y2 => [(1, .int .i64 y2)]) (fun y2 => []) (fun y => y5 = .inr y) (fun _ _ _ _ g h => RW.gh g h) ?_ ?_
  ·refine RW.blk ?_
   refine RW.iter (σ := Int × Int) ey5 (fun s1 => [(0, .lst false 9 (fl (enc_TItem false) x0) x0.length), (1, .int .i64 s1.1), (5, .int .i64 s1.2)]) (fun s1 => []) (Gh.ren0 [] .nil rfl (.cons rfl (.dat (ek_TItem.rlst)) (.cons rfl (.dat .int) (.cons rfl (.dat .int) .nil)))) (fun s1 B o hS2 hB2 hE2 => ?_)
   unfold S_laws_szItemS_1 at hS2
   refine RW.seq (RW.sreg (rl.run 3 rfl ?_))
   refine rl.gen rfl rfl fun b hb => ?_
   cases b
   ·have h4 := iteBF hS2 hb
    refine rl.done (RW.cond_f rfl (RW.exit (blkA_eq ?_)))
    cases h4
    exact ⟨_, (hE2 _ rfl).symm, (Gh.ren0 [] .nil rfl (.cons rfl (.dat .int) .nil))⟩
   ·have h5 := iteBT hS2 hb
    refine rl.done (RW.cond_t rfl (RW.skip (RW.seq (RW.blk (RW.sreg (rl.run 2 rfl ?_))))))
    obtain ⟨v3, e3, h6⟩ := bindS h5
    refine rl.op (x_ia_lst (enc := enc_TItem) (o := false) rfl rfl rfl e3) ?_
    refine rl.op (x_ld_ela (off' := 0) (vs := (enc_TItem false v3)) ek_TItem rfl e3 rfl rfl rfl) ?_
    refine rl.run 1 rfl ?_
    obtain ⟨v4, e4, h7⟩ := bindS h6
    refine rl.call rfl rfl rfl (CallW.val (r' := .int .i64 v4) ok_laws_szItem (law_laws_szItem e4) (.cons (.dat (.agg (ek_TItem.dat false _))) (.cons .int .nil)) .refl ?_)
    refine rl.run 1 rfl (rl.done (RW.sreg (rl.run 1 rfl ?_)))
    refine rl.gen rfl rfl fun b hb => ?_
    cases b
    ·have h8 := iteBF h7 hb
     refine rl.done ?_
     refine RW.keep [0, 1, 5, 25] (a' := [(0, .lst false 9 (fl (enc_TItem false) x0) x0.length), (1, .int .i64 v4), (5, .int .i64 s1.2), (25, .bool false)]) (H' := []) rfl rfl ?_
     refine RW.cond_f rfl (RW.skip (RW.reg (rl.run 3 rfl (rl.done ?_))))
     cases h8
     exact hB2 _ rfl _ _ (Gh.ren0 [] .nil rfl (.cons rfl (.dat (ek_TItem.rlst)) (.cons rfl (.dat .int) (.cons rfl (.dat .int) .nil))))
    ·have h9 := iteBT h7 hb
     refine rl.done ?_
     refine RW.keep [0, 1, 5, 25] (a' := [(0, .lst false 9 (fl (enc_TItem false) x0) x0.length), (1, .int .i64 v4), (5, .int .i64 s1.2), (25, .bool true)]) (H' := []) rfl rfl ?_
     refine RW.cond_t rfl (RW.sreg (rl.run 1 rfl (rl.done (RW.ret ?_))))
     cases h9
     have h10 := elimL h3 (hE2 _ rfl)
     cases h10
     exact RRet.mk rfl .int (by first | decide | simp)
  ·intro y2 hC
   have h3 := elimR h3 hC
   refine RW.sreg (rl.run 2 rfl (rl.done (RW.ret ?_)))
   cases h3
   exact RRet.mk rfl .int (by first | decide | simp)
 ·have h11 := iteBT hF hb
  refine rl.done (RW.cond_t rfl (RW.sreg (rl.run 1 rfl (rl.done (RW.ret ?_)))))
  cases h11
  exact RRet.mk rfl .int (by first | decide | simp)
theorem law_laws_toRec {x0 : TRec} {r : TRec} (hF : F_laws_toRec x0 = some r) : PCalls Try.prog 55 [.agg (enc_TRec false x0)] (.agg (enc_TRec true r)) := by
 refine PCalls.of_r k_laws_toRec rfl ?_
 unfold F_laws_toRec at hF
 refine RW.sreg (rl.run 2 rfl (rl.done (RW.sreg (rl.run 1 rfl (rl.done (RW.sreg (rl.run 4 rfl (rl.done (RW.sreg (rl.run 4 rfl (rl.done ?_)))))))))))
 refine RW.sreg (rl.run 4 rfl (rl.done (RW.sreg (rl.run 4 rfl (rl.done ?_)))))
 refine RW.keep [1, 2, 3] (a' := [(1, .ptr 0 0), (2, .ptr 1 0), (3, .ptr 2 0)]) (H' := [some ⟨[.int .i64 x0.Kind, .int .i64 x0.Valid, .int .i64 x0.Uid, .int .i64 x0.Next, .int .i64 x0.Flags, .str x0.User, .str x0.Name, .str x0.Text], 0⟩, some ⟨[.int .i64 0, .int .i64 0, .int .i64 0, .int .i64 0, .int .i64 0, .str [], .str [], .str []], 0⟩, some ⟨[.int .i64 x0.Kind, .int .i64 x0.Valid, .int .i64 x0.Uid, .int .i64 x0.Next, .int .i64 0, .str [], .str [], .str []], 0⟩]) rfl rfl ?_
 refine RW.sreg (rl.run 4 rfl (rl.done (RW.sreg (rl.run 4 rfl (rl.done (RW.sreg (rl.run 4 rfl (rl.done (RW.sreg (rl.run 4 rfl (rl.done ?_)))))))))))
 refine RW.keep [2, 3] (a' := [(2, .ptr 1 0), (3, .ptr 2 0)]) (H' := [some ⟨[.int .i64 x0.Kind, .int .i64 x0.Valid, .int .i64 x0.Uid, .int .i64 x0.Next, .int .i64 x0.Flags, .str x0.User, .str x0.Name, .str x0.Text], 0⟩, some ⟨[.int .i64 0, .int .i64 0, .int .i64 0, .int .i64 0, .int .i64 0, .str [], .str [], .str []], 0⟩, some ⟨[.int .i64 x0.Kind, .int .i64 x0.Valid, .int .i64 x0.Uid, .int .i64 x0.Next, .int .i64 x0.Flags, .str x0.User, .str x0.Name, .str x0.Text], 0⟩]) rfl rfl ?_
 refine RW.sreg (rl.run 2 rfl (rl.done (RW.ret ?_)))
 cases hF
 exact RRet.mk rfl (OutL.agg (.cons .int rfl (.cons .int rfl (.cons .int rfl (.cons .int rfl (.cons .int rfl (.cons .str rfl (.cons .str rfl (.cons .str rfl .nil))))))))) (by first | decide | simp)
theorem law_laws_toItem {x0 : TItem} {r : TItem} (hF : F_laws_toItem x0 = some r) : PCalls Try.prog 33 [.agg (enc_TItem false x0)] (.agg (enc_TItem true r)) := by
 refine PCalls.of_r k_laws_toItem rfl ?_
 unfold F_laws_toItem at hF
 refine RW.sreg (rl.run 2 rfl (rl.done (RW.sreg (rl.run 1 rfl (rl.done (RW.sreg (rl.run 4 rfl (rl.done (RW.sreg (rl.run 2 rfl ?_))))))))))
 obtain ⟨v1, e1, h1⟩ := bindS hF
 refine rl.call rfl rfl rfl (CallW.val (r' := .agg (enc_TRec false v1)) ok_laws_toRec (law_laws_toRec e1) (.cons (DFL.agg (.cons .int (.cons .int (.cons .int (.cons .int (.cons .int (.cons .str (.cons .str (.cons .str .nil))))))))) .nil) .refl ?_)
 refine rl.run 2 rfl (rl.done (RW.sreg (rl.run 2 rfl (rl.done ?_))))
 refine RW.keep [2] (a' := [(2, .ptr 1 0)]) (H' := [some ⟨[.int .i64 x0.Seq, .int .i64 x0.Rec.Kind, .int .i64 x0.Rec.Valid, .int .i64 x0.Rec.Uid, .int .i64 x0.Rec.Next, .int .i64 x0.Rec.Flags, .str x0.Rec.User, .str x0.Rec.Name, .str x0.Rec.Text], 0⟩, some ⟨[.int .i64 x0.Seq, .int .i64 v1.Kind, .int .i64 v1.Valid, .int .i64 v1.Uid, .int .i64 v1.Next, .int .i64 v1.Flags, .str v1.User, .str v1.Name, .str v1.Text], 0⟩, some ⟨[.int .i64 x0.Seq, .int .i64 v1.Kind, .int .i64 v1.Valid, .int .i64 v1.Uid, .int .i64 v1.Next, .int .i64 v1.Flags, .str v1.User, .str v1.Name, .str v1.Text], 0⟩]) rfl rfl ?_
 refine RW.ret ?_
 cases h1
 exact RRet.mk rfl (OutL.agg (.cons .int rfl (.cons .int rfl (.cons .int rfl (.cons .int rfl (.cons .int rfl (.cons .int rfl (.cons .str rfl (.cons .str rfl (.cons .str rfl .nil)))))))))) (by first | decide | simp)
theorem law_laws_toItemS {x0 : List TItem} {r : List TItem} (hF : F_laws_toItemS x0 = some r) : PCalls Try.prog 8 [.lst false 9 (fl (enc_TItem false) x0) x0.length] (.lst true 9 (fl (enc_TItem true) r) r.length) := by
 refine PCalls.of_r k_laws_toItemS rfl ?_
 unfold F_laws_toItemS at hF
 refine RW.sreg (rl.run 1 rfl (rl.done (RW.sreg (rl.run 2 rfl ?_))))
 obtain ⟨v1, e1, h1⟩ := bindS hF
 refine rl.op (x_ms ek_TItem rfl rfl e1 rfl) ?_
 refine rl.run 1 rfl (rl.done (RW.seq (RW.sreg (rl.run 1 rfl (rl.done ?_)))))
 obtain ⟨y8, ey8, h3⟩ := bindS h1
 refine RW.cutq (σ := (List TItem)) (fun y3 => [(3, .sl 0 0 y3.length)]) (fun y3 => [some ⟨fl (enc_TItem true) y3, 9⟩]) (fun y => y8 = y) (fun _ _ _ _ g h => RW.gh g h) ?_ ?_
 ·refine RW.blk ?_
  refine RW.iter (σ := Int × (List TItem)) ey8 (fun s2 => [(0, .lst false 9 (fl (enc_TItem false) x0) x0.length), (3, .sl 0 0 s2.2.length), (4, .int .i64 s2.1)]) (fun s2 => [some ⟨fl (enc_TItem true) s2.2, 9⟩]) (Gh.ren0 [0] (.same rfl (ek_TItem.fref _ _) .nil) rfl (.cons rfl (.dat (ek_TItem.rlst)) (.cons rfl (.slq rfl rfl) (.cons rfl (.dat .int) .nil)))) (fun s2 B o hS2 hB2 hE2 => ?_)
  unfold S_laws_toItemS_1 at hS2
  refine RW.seq (RW.sreg (rl.run 3 rfl ?_))
  refine rl.gen rfl rfl fun b hb => ?_
  cases b
  ·have h4 := iteBF hS2 hb
   refine rl.done (RW.cond_f rfl (RW.exit (blkA_eq ?_)))
   cases h4
   exact ⟨_, (hE2 _ rfl).symm, (Gh.ren0 [0] (.same rfl (ek_TItem.fref _ _) .nil) rfl (.cons rfl (.slq rfl rfl) .nil))⟩
  ·have h5 := iteBT hS2 hb
   refine rl.done (RW.cond_t rfl (RW.skip (RW.seq (RW.blk (RW.reg (rl.run 4 rfl ?_))))))
   obtain ⟨v4, e4, h6⟩ := bindS h5
   refine rl.op (x_ia_lst (enc := enc_TItem) (o := false) rfl rfl rfl e4) ?_
   refine rl.op (x_ld_ela (off' := 0) (vs := (enc_TItem false v4)) ek_TItem rfl e4 rfl rfl rfl) ?_
   obtain ⟨v5, e5, h7⟩ := bindS h6
   refine rl.call rfl rfl rfl (CallW.val (r' := .agg (enc_TItem false v5)) ok_laws_toItem (law_laws_toItem e5) (.cons (.dat (.agg (ek_TItem.dat false _))) .nil) .refl ?_)
   obtain ⟨v6, e6, h8⟩ := bindS h7
   refine rl.op (x_ia_sl rfl rfl rfl rfl e6) ?_
   obtain ⟨v7, e7, h9⟩ := bindS h8
   refine rl.op0 (x_st_sl' (off' := 0) (o := true) (e' := v5) ek_TItem e6 rfl rfl rfl rfl rfl rfl rfl rfl rfl e7) ?_
   refine rl.done (RW.reg (rl.run 3 rfl (rl.done ?_)))
   cases h9
   exact hB2 _ rfl _ _ (Gh.ren0 [0] (.same rfl (ek_TItem.fref _ _) .nil) rfl (.cons rfl (.dat (ek_TItem.rlst)) (.cons rfl (.slq rfl (set'_len e7)) (.cons rfl (.dat .int) .nil))))
 ·intro y3 hC
  subst hC
  refine RW.sreg (rl.run 2 rfl (rl.done (RW.ret ?_)))
  cases h3
  exact RRet.mk rfl (OutR.ownq ek_TItem rfl rfl) (by first | decide | simp)
set_option maxHeartbeats 2000000 in
theorem law_laws_FnExactNextsOf {x0 : List TItem} {x1 : List Bool} {r : Bool} (hF : F_laws_FnExactNextsOf x0 x1 = some r) : PCalls Try.prog 4 [.lst false 9 (fl (enc_TItem false) x0) x0.length, .lst false 1 (fl (encO false) x1) x1.length] (.bool r) := by
 refine PCalls.of_r k_laws_FnExactNextsOf rfl ?_
 unfold F_laws_FnExactNextsOf at hF
 refine RW.sreg (rl.run 1 rfl (rl.done (RW.seq (RW.sreg (rl.run 2 rfl ?_)))))
 refine rl.gen rfl rfl fun b hb => ?_
 cases b
 ·have h1 := iteBF hF hb
  refine rl.done (RW.cond_f rfl (RW.skip (RW.sreg (rl.run 1 rfl (rl.done (RW.sreg (rl.run 2 rfl ?_)))))))
  obtain ⟨v1, e1, h2⟩ := bindS h1
  refine rl.call rfl rfl rfl (CallW.val (r' := .int .i64 v1) ok_laws_szItemS (law_laws_szItemS e1) (.cons (.lst ek_TItem) (.cons .int .nil)) .refl ?_)
  refine rl.run 1 rfl (rl.done (RW.seq (RW.sreg (rl.run 1 rfl ?_))))
  refine rl.gen rfl rfl fun b hb => ?_
  cases b
  ·have h3 := iteBF h2 hb
   refine rl.done (RW.cond_f rfl (RW.skip (RW.sreg (rl.run 1 rfl ?_))))
   obtain ⟨v2, e2, h4⟩ := bindS h3
   refine rl.call rfl rfl rfl (CallW.val (r' := .lst false 9 (fl (enc_TItem false) v2) v2.length) ok_laws_toItemS (law_laws_toItemS e2) (.cons (.lst ek_TItem) .nil) (ek_TItem.fflag _).lst ?_)
   refine rl.run 1 rfl ?_
   obtain ⟨v3, e3, h5⟩ := bindS h4
   refine rl.call rfl rfl rfl (CallW.val (r' := .lst false 1 (fl (encO false) v3) v3.length) ok_laws_toBoolS (law_laws_toBoolS e3) (.cons (.lst ekO) .nil) (ekO.fflag _).lst ?_)
   obtain ⟨v4, e4, h6⟩ := bindS h5
   refine rl.call rfl rfl rfl (CallW.val (r' := .lst false 8 (fl (enc_TRec false) v4) v4.length) ok_spec_NextsOf (law_spec_NextsOf e4) (.cons (.lst ek_TItem) (.cons (.lst ekO) .nil)) (ek_TRec.fflag _).lst ?_)
   refine rl.run 1 rfl (rl.done ?_)
   refine RW.keep [0, 1, 6] (a' := [(0, .lst false 9 (fl (enc_TItem false) x0) x0.length), (1, .lst false 1 (fl (encO false) x1) x1.length), (6, .lst false 8 (fl (enc_TRec false) v4) v4.length)]) (H' := []) rfl rfl ?_
   refine RW.sreg (rl.run 1 rfl ?_)
   obtain ⟨v5, e5, h7⟩ := bindS h6
   refine rl.call rfl rfl rfl (CallW.own (r' := .sl 0 0 v5.length) (H' := [some ⟨fl (enc_TItem true) v5, 9⟩]) ok_laws_toItemS (law_laws_toItemS e5) (.cons (.lst ek_TItem) .nil) (.lst (ek_TItem.fown _)) rfl ?_)
   refine rl.run 1 rfl (rl.done (RW.sreg (rl.run 1 rfl ?_)))
   obtain ⟨v6, e6, h8⟩ := bindS h7
   refine rl.call rfl rfl rfl (CallW.own (r' := .sl 1 0 v6.length) (H' := [some ⟨fl (enc_TItem true) v5, 9⟩, some ⟨fl (encO true) v6, 1⟩]) ok_laws_toBoolS (law_laws_toBoolS e6) (.cons (.lst ekO) .nil) (.lst (ekO.fown _)) rfl ?_)
   refine rl.run 1 rfl (rl.done (RW.sreg (rl.run 2 rfl ?_)))
   obtain ⟨v7, e7, h9⟩ := bindS h8
   refine rl.call rfl rfl rfl (CallW.own (r' := .sl 2 0 v7.length) (H' := [some ⟨fl (enc_TItem true) v5, 9⟩, some ⟨fl (encO true) v6, 1⟩, some ⟨fl (enc_TRec true) v7, 8⟩]) ok_impl_NextsOf (law_impl_NextsOf e7) (.cons (.slq ek_TItem rfl rfl) (.cons (.slq ekO rfl rfl) .nil)) (.lst (ek_TRec.fown _)) rfl ?_)
   refine rl.run 1 rfl (rl.done (RW.seq (RW.sreg (rl.run 2 rfl ?_))))
   obtain ⟨v8, e8, h10⟩ := bindS h9
   refine rl.call rfl rfl rfl (CallW.val (r' := .bool v8) ok_laws_eqRecS (law_laws_eqRecS e8) (.cons (.slq ek_TRec rfl rfl) (.cons (.lst ek_TRec) .nil)) .refl ?_)
   cases hb : v8
   ·have h11 := iteBF h10 hb
    refine rl.run 1 rfl (rl.done (RW.cond_t rfl (RW.sreg (rl.run 1 rfl (rl.done ?_)))))
    refine RW.keep [4] (a' := [(4, .bool false)]) (H' := [some ⟨fl (enc_TItem true) v5, 9⟩, some ⟨fl (encO true) v6, 1⟩, some ⟨fl (enc_TRec true) v7, 8⟩]) rfl rfl ?_
    refine RW.ret ?_
    cases h11
    exact RRet.mk rfl .bool (by first | decide | simp)
   ·have h12 := iteBT h10 hb
    refine rl.run 1 rfl (rl.done (RW.cond_f rfl (RW.skip (RW.seq (RW.sreg (rl.run 2 rfl ?_))))))
    obtain ⟨v9, e9, h13⟩ := bindS h12
    refine rl.call rfl rfl rfl (CallW.val (r' := .lst false 9 (fl (enc_TItem false) v9) v9.length) ok_laws_toItemS (law_laws_toItemS e9) (.cons (.lst ek_TItem) .nil) (ek_TItem.fflag _).lst ?_)
    obtain ⟨v10, e10, h14⟩ := bindS h13
    refine rl.call rfl rfl rfl (CallW.val (r' := .bool v10) ok_laws_eqItemS (law_laws_eqItemS e10) (.cons (.slq ek_TItem rfl rfl) (.cons (.lst ek_TItem) .nil)) .refl ?_)
    cases hb : v10
    ·have h15 := iteBF h14 hb
     refine rl.run 1 rfl (rl.done ?_)
     refine RW.keep [0, 1, 6, 7, 8, 9, 42] (a' := [(0, .lst false 9 (fl (enc_TItem false) x0) x0.length), (1, .lst false 1 (fl (encO false) x1) x1.length), (6, .lst false 8 (fl (enc_TRec false) v4) v4.length), (7, .sl 0 0 v5.length), (8, .sl 1 0 v6.length), (9, .sl 2 0 v7.length), (42, .bool true)]) (H' := [some ⟨fl (enc_TItem true) v5, 9⟩, some ⟨fl (encO true) v6, 1⟩, some ⟨fl (enc_TRec true) v7, 8⟩]) rfl rfl ?_
     refine RW.cond_t rfl (RW.sreg (rl.run 1 rfl (rl.done (RW.ret ?_))))
     cases h15
     exact RRet.mk rfl .bool (by first | decide | simp)
    ·have h16 := iteBT h14 hb
     refine rl.run 1 rfl (rl.done ?_)
     refine RW.keep [0, 1, 6, 7, 8, 9, 42] (a' := [(0, .lst false 9 (fl (enc_TItem false) x0) x0.length), (1, .lst false 1 (fl (encO false) x1) x1.length), (6, .lst false 8 (fl (enc_TRec false) v4) v4.length), (7, .sl 0 0 v5.length), (8, .sl 1 0 v6.length), (9, .sl 2 0 v7.length), (42, .bool false)]) (H' := [some ⟨fl (enc_TItem true) v5, 9⟩, some ⟨fl (encO true) v6, 1⟩, some ⟨fl (enc_TRec true) v7, 8⟩]) rfl rfl ?_
     refine RW.cond_f rfl (RW.skip (RW.seq (RW.sreg (rl.run 2 rfl ?_))))
     obtain ⟨v11, e11, h17⟩ := bindS h16
     refine rl.call rfl rfl rfl (CallW.val (r' := .lst false 1 (fl (encO false) v11) v11.length) ok_laws_toBoolS (law_laws_toBoolS e11) (.cons (.lst ekO) .nil) (ekO.fflag _).lst ?_)
     obtain ⟨v12, e12, h18⟩ := bindS h17
     refine rl.call rfl rfl rfl (CallW.val (r' := .bool v12) ok_laws_eqBoolS (law_laws_eqBoolS e12) (.cons (.slq ekO rfl rfl) (.cons (.lst ekO) .nil)) .refl ?_)
     cases hb : v12
     ·have h19 := iteBF h18 hb
      refine rl.run 1 rfl (rl.done (RW.cond_t rfl (RW.sreg (rl.run 1 rfl (rl.done ?_)))))
      refine RW.keep [4] (a' := [(4, .bool false)]) (H' := [some ⟨fl (enc_TItem true) v5, 9⟩, some ⟨fl (encO true) v6, 1⟩, some ⟨fl (enc_TRec true) v7, 8⟩]) rfl rfl ?_
      refine RW.ret ?_
      cases h19
      exact RRet.mk rfl .bool (by first | decide | simp)
     ·have h20 := iteBT h18 hb
      refine rl.run 1 rfl (rl.done (RW.cond_f rfl (RW.skip (RW.sreg (rl.run 1 rfl (rl.done (RW.sreg (rl.run 2 rfl ?_))))))))
      obtain ⟨v13, e13, h21⟩ := bindS h20
      refine rl.call rfl rfl rfl (CallW.embW (r0 := .int .i64 v13.1) (H' := [some ⟨fl (enc_TItem true) v13.2, 9⟩, some ⟨fl (encO true) v6, 1⟩, some ⟨fl (enc_TRec true) v7, 8⟩]) [⟨fl (enc_TItem true) v5, 9⟩] [⟨fl (enc_TItem true) v13.2, 9⟩] [0] ok_laws_markItemS (law_laws_markItemS_w (guardO_s e13)) (.cons rfl (ek_TItem.fref _ _) (ek_TItem.fown _) .nil) rfl (.cons (.slq rfl rfl) (.cons (.dat .int) .nil)) .int rfl rfl ?_)
      refine rl.run 1 rfl (rl.done (RW.sreg (rl.run 2 rfl ?_)))
      obtain ⟨v14, e14, h22⟩ := bindS h21
      refine rl.call rfl rfl rfl (CallW.embW (r0 := .int .i64 v14.1) (H' := [some ⟨fl (enc_TItem true) v13.2, 9⟩, some ⟨fl (encO true) v14.2, 1⟩, some ⟨fl (enc_TRec true) v7, 8⟩]) [⟨fl (encO true) v6, 1⟩] [⟨fl (encO true) v14.2, 1⟩] [1] ok_laws_markBoolS (law_laws_markBoolS_w (guardO_s e14)) (.cons rfl (ekO.fref _ _) (ekO.fown _) .nil) rfl (.cons (.slq rfl rfl) (.cons (.dat .int) .nil)) .int rfl rfl ?_)
      refine rl.run 1 rfl (rl.done ?_)
      refine RW.keep [0, 1, 6, 9, 10] (a' := [(0, .lst false 9 (fl (enc_TItem false) x0) x0.length), (1, .lst false 1 (fl (encO false) x1) x1.length), (6, .lst false 8 (fl (enc_TRec false) v4) v4.length), (9, .sl 2 0 v7.length), (10, .int .i64 v14.1)]) (H' := [some ⟨fl (enc_TItem true) v13.2, 9⟩, some ⟨fl (encO true) v14.2, 1⟩, some ⟨fl (enc_TRec true) v7, 8⟩]) rfl rfl ?_
      refine RW.seq (RW.seq ?_)
      obtain ⟨y15, ey15, h23⟩ := bindS h22
      refine RW.cutq (σ := Bool) (fun y15 => [(0, .lst false 9 (fl (enc_TItem false) x0) x0.length), (1, .lst false 1 (fl (encO false) x1) x1.length), (6, .lst false 8 (fl (enc_TRec false) v4) v4.length), (9, .sl 0 0 v7.length), (61, .bool y15)]) (fun y15 => [some ⟨fl (enc_TRec true) v7, 8⟩]) (fun y => y15 = y) (fun _ _ _ _ g h => RW.gh g h) ?_ ?_
      ·refine RW.reg ?_
       refine rl.run 1 rfl ?_
       refine rl.gen rfl rfl fun b hb => ?_
       cases b
       ·have h24 := iteBF ey15 hb
        refine rl.run 3 rfl ?_
        obtain ⟨v16, e16, h25⟩ := bindS h24
        refine rl.call rfl rfl rfl (CallW.val (r' := .bool v16) ok_laws_eqRecS (law_laws_eqRecS e16) (.cons (.slq ek_TRec rfl rfl) (.cons (.lst ek_TRec) .nil)) .refl ?_)
        cases hb : v16
        ·have h26 := iteBF h25 hb
         refine rl.run 2 rfl (rl.done ?_)
         cases h26
         exact ⟨_, rfl, (Gh.ren0 [2] (.same rfl (ek_TRec.fref _ _) .nil) rfl (.cons rfl (.dat (ek_TItem.rlst)) (.cons rfl (.dat (ekO.rlst)) (.cons rfl (.dat (ek_TRec.rlst)) (.cons rfl (.slq rfl rfl) (.cons rfl (.dat .bool) .nil))))))⟩
        ·have h27 := iteBT h25 hb
         refine rl.run 2 rfl (rl.done ?_)
         cases h27
         exact ⟨_, rfl, (Gh.ren0 [2] (.same rfl (ek_TRec.fref _ _) .nil) rfl (.cons rfl (.dat (ek_TItem.rlst)) (.cons rfl (.dat (ekO.rlst)) (.cons rfl (.dat (ek_TRec.rlst)) (.cons rfl (.slq rfl rfl) (.cons rfl (.dat .bool) .nil))))))⟩
       ·have h28 := iteBT ey15 hb
        refine rl.run 6 rfl (rl.done ?_)
        cases h28
        exact ⟨_, rfl, (Gh.ren0 [2] (.same rfl (ek_TRec.fref _ _) .nil) rfl (.cons rfl (.dat (ek_TItem.rlst)) (.cons rfl (.dat (ekO.rlst)) (.cons rfl (.dat (ek_TRec.rlst)) (.cons rfl (.slq rfl rfl) (.cons rfl (.dat .bool) .nil))))))⟩
      ·intro y hC
       subst hC
       cases hb : y15
       ·have h29 := iteBF h23 hb
        refine RW.cond_f rfl (RW.skip (RW.sreg (rl.run 1 rfl (rl.done (RW.sreg (rl.run 2 rfl ?_))))))
        obtain ⟨v17, e17, h30⟩ := bindS h29
        refine rl.call rfl rfl rfl (CallW.embW (r0 := .int .i64 v17.1) (H' := [some ⟨fl (enc_TRec true) v17.2, 8⟩]) [⟨fl (enc_TRec true) v7, 8⟩] [⟨fl (enc_TRec true) v17.2, 8⟩] [0] ok_laws_markRecS (law_laws_markRecS_w (guardO_s e17)) (.cons rfl (ek_TRec.fref _ _) (ek_TRec.fown _) .nil) rfl (.cons (.slq rfl rfl) (.cons (.dat .int) .nil)) .int rfl rfl ?_)
        refine rl.run 1 rfl (rl.done (RW.sreg (rl.run 1 rfl (rl.done (RW.sreg (rl.run 2 rfl ?_))))))
        obtain ⟨v18, e18, h31⟩ := bindS h30
        refine rl.call rfl rfl rfl (CallW.val (r' := .int .i64 v18) ok_laws_heldRecS (law_laws_heldRecS e18) (.cons (.slq ek_TRec rfl (guardO_p (p := fun r : Int × (List TRec) => v7.length = r.2.length) e17)) (.cons .int .nil)) .refl ?_)
        refine rl.run 1 rfl (rl.done (RW.seq (RW.sreg (rl.run 1 rfl ?_))))
        refine rl.gen rfl rfl fun b hb => ?_
        cases b
        ·have h32 := iteBF h31 hb
         refine rl.done (RW.cond_f rfl (RW.skip (RW.seq (RW.sreg (rl.run 2 rfl ?_)))))
         refine rl.gen rfl rfl fun b hb => ?_
         cases b
         ·have h33 := iteBF h32 hb
          refine rl.done ?_
          refine RW.keep [0, 1, 6, 9, 11, 72] (a' := [(0, .lst false 9 (fl (enc_TItem false) x0) x0.length), (1, .lst false 1 (fl (encO false) x1) x1.length), (6, .lst false 8 (fl (enc_TRec false) v4) v4.length), (9, .sl 0 0 v7.length), (11, .int .i64 v17.1), (72, .bool false)]) (H' := [some ⟨fl (enc_TRec true) v17.2, 8⟩]) rfl rfl ?_
          refine RW.cond_f rfl (RW.skip (RW.sreg (rl.run 1 rfl ?_)))
          obtain ⟨v19, e19, h34⟩ := bindS h33
          refine rl.call rfl rfl rfl (CallW.val (r' := .lst false 9 (fl (enc_TItem false) v19) v19.length) ok_laws_toItemS (law_laws_toItemS e19) (.cons (.lst ek_TItem) .nil) (ek_TItem.fflag _).lst ?_)
          refine rl.run 1 rfl ?_
          obtain ⟨v20, e20, h35⟩ := bindS h34
          refine rl.call rfl rfl rfl (CallW.val (r' := .lst false 1 (fl (encO false) v20) v20.length) ok_laws_toBoolS (law_laws_toBoolS e20) (.cons (.lst ekO) .nil) (ekO.fflag _).lst ?_)
          obtain ⟨v21, e21, h36⟩ := bindS h35
          refine rl.call rfl rfl rfl (CallW.val (r' := .lst false 8 (fl (enc_TRec false) v21) v21.length) ok_impl_NextsOf (law_impl_NextsOf e21) (.cons (.lst ek_TItem) (.cons (.lst ekO) .nil)) (ek_TRec.fflag _).lst ?_)
          refine rl.run 1 rfl (rl.done (RW.seq (RW.sreg (rl.run 2 rfl ?_))))
          obtain ⟨v22, e22, h37⟩ := bindS h36
          refine rl.call rfl rfl rfl (CallW.val (r' := .bool v22) ok_laws_eqRecS (law_laws_eqRecS e22) (.cons (.lst ek_TRec) (.cons (.lst ek_TRec) .nil)) .refl ?_)
          cases hb : v22
          ·have h38 := iteBF h37 hb
           refine rl.run 1 rfl (rl.done ?_)
           refine RW.keep [9, 11, 81] (a' := [(9, .sl 0 0 v7.length), (11, .int .i64 v17.1), (81, .bool true)]) (H' := [some ⟨fl (enc_TRec true) v17.2, 8⟩]) rfl rfl ?_
           refine RW.cond_t rfl (RW.sreg (rl.run 1 rfl (rl.done (RW.ret ?_))))
           cases h38
           exact RRet.mk rfl .bool (by first | decide | simp)
          ·have h39 := iteBT h37 hb
           refine rl.run 1 rfl (rl.done ?_)
           refine RW.keep [9, 11, 81] (a' := [(9, .sl 0 0 v7.length), (11, .int .i64 v17.1), (81, .bool false)]) (H' := [some ⟨fl (enc_TRec true) v17.2, 8⟩]) rfl rfl ?_
           refine RW.cond_f rfl (RW.skip (RW.sreg (rl.run 1 rfl (rl.done (RW.sreg (rl.run 2 rfl ?_))))))
           obtain ⟨v23, e23, h40⟩ := bindS h39
           refine rl.call rfl rfl rfl (CallW.val (r' := .int .i64 v23) ok_laws_heldRecS (law_laws_heldRecS e23) (.cons (.slq ek_TRec rfl (guardO_p (p := fun r : Int × (List TRec) => v7.length = r.2.length) e17)) (.cons .int .nil)) .refl ?_)
           refine rl.run 1 rfl (rl.done (RW.seq (RW.sreg (rl.run 1 rfl ?_))))
           refine rl.gen rfl rfl fun b hb => ?_
           cases b
           ·have h41 := iteBF h40 hb
            refine rl.done (RW.cond_f rfl (RW.skip (RW.seq (RW.sreg (rl.run 2 rfl ?_)))))
            refine rl.gen rfl rfl fun b hb => ?_
            cases b
            ·have h42 := iteBF h41 hb
             refine rl.done ?_
             refine RW.keep [89] (a' := [(89, .bool false)]) (H' := [some ⟨fl (enc_TRec true) v17.2, 8⟩]) rfl rfl ?_
             refine RW.cond_f rfl (RW.skip (RW.sreg (rl.run 1 rfl (rl.done (RW.ret ?_)))))
             cases h42
             exact RRet.mk rfl .bool (by first | decide | simp)
            ·have h43 := iteBT h41 hb
             refine rl.done ?_
             refine RW.keep [89] (a' := [(89, .bool true)]) (H' := [some ⟨fl (enc_TRec true) v17.2, 8⟩]) rfl rfl ?_
             refine RW.cond_t rfl (RW.sreg (rl.run 1 rfl (rl.done (RW.ret ?_))))
             cases h43
             exact RRet.mk rfl .bool (by first | decide | simp)
           ·have h44 := iteBT h40 hb
            refine rl.done (RW.cond_t rfl (RW.sreg (rl.run 1 rfl (rl.done (RW.ret ?_)))))
            cases h44
            exact RRet.mk rfl .bool (by first | decide | simp)
         ·have h45 := iteBT h32 hb
          refine rl.done ?_
          refine RW.keep [0, 1, 6, 9, 11, 72] (a' := [(0, .lst false 9 (fl (enc_TItem false) x0) x0.length), (1, .lst false 1 (fl (encO false) x1) x1.length), (6, .lst false 8 (fl (enc_TRec false) v4) v4.length), (9, .sl 0 0 v7.length), (11, .int .i64 v17.1), (72, .bool true)]) (H' := [some ⟨fl (enc_TRec true) v17.2, 8⟩]) rfl rfl ?_
          refine RW.cond_t rfl (RW.sreg (rl.run 1 rfl (rl.done (RW.ret ?_))))
          cases h45
          exact RRet.mk rfl .bool (by first | decide | simp)
        ·have h46 := iteBT h31 hb
         refine rl.done (RW.cond_t rfl (RW.sreg (rl.run 1 rfl (rl.done ?_))))
         refine RW.keep [4] (a' := [(4, .bool false)]) (H' := [some ⟨fl (enc_TRec true) v17.2, 8⟩]) rfl rfl ?_
         refine RW.ret ?_
         cases h46
         exact RRet.mk rfl .bool (by first | decide | simp)
       ·have h47 := iteBT h23 hb
        refine RW.cond_t rfl (RW.sreg (rl.run 1 rfl (rl.done (RW.ret ?_))))
        cases h47
        exact RRet.mk rfl .bool (by first | decide | simp)
  ·have h48 := iteBT h2 hb
   refine rl.done (RW.cond_t rfl (RW.sreg (rl.run 1 rfl (rl.done ?_))))
   refine RW.keep [4] (a' := [(4, .bool true)]) (H' := []) rfl rfl ?_
   refine RW.ret ?_
   cases h48
   exact RRet.mk rfl .bool (by first | decide | simp)
 ·have h49 := iteBT hF hb
  refine rl.done (RW.cond_t rfl (RW.sreg (rl.run 1 rfl (rl.done (RW.ret ?_)))))
  cases h49
  exact RRet.mk rfl .bool (by first | decide | simp)
end Go.Proofs.Ytcehlicmghnghaa.V
