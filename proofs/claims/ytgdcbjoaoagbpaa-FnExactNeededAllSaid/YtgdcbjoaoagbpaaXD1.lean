/- What a call comes to. -/
import Derived.Test.YtgdcbjoaoagbpaaXD0
namespace Go.Proofs.Ytgdcbjoaoagbpaa.V
open Go Go.Proofs Go.RowKit
set_option maxRecDepth 100000
theorem law_impl_boxThere_2_w {x0 : TRec} {x1 : Int} {r : Bool} (hF : F_impl_boxThere_2_w x0 x1 = some r) : ACalls Try.prog 1 193 [.agg (enc_TRec false x0), .ptr 0 0] [some ⟨[.int .i64 x1], 0⟩] (.bool r) [some ⟨[.int .i64 x1], 0⟩] := by
  refine ACalls.of_s k_impl_boxThere_2 rfl ?_
  unfold F_impl_boxThere_2_w at hF
  refine RW.sreg ?_
  refine rl.run 2 rfl ?_
  refine rl.done ?_
  refine RW.sreg ?_
  refine rl.run 2 rfl ?_
  obtain ⟨v1, e1, h1⟩ := bindS hF
  refine rl.call rfl rfl rfl (CallW.val (r' := .bool v1) ok_impl_about (law_impl_about e1) (.cons (DFL.agg (.cons .int (.cons .int (.cons .int (.cons .int (.cons .int (.cons .str (.cons .str (.cons .str .nil))))))))) (.cons .int (.cons .int .nil))) .refl ?_)
  refine rl.run 1 rfl ?_
  refine rl.done ?_
  refine RW.ret ?_
  cases h1
  exact RRetS.mk rfl .bool (Gh.renN [0] (.cells rfl rfl (.keep .int .nil) .nil) rfl rfl rfl .nil)
theorem law_impl_byNext {x0 : TItem} {x1 : TItem} {r : Bool} (hF : F_impl_byNext x0 x1 = some r) : PCalls Try.prog 194 [.agg (enc_TItem false x0), .agg (enc_TItem false x1)] (.bool r) := by
  refine PCalls.of_r k_impl_byNext rfl ?_
  unfold F_impl_byNext at hF
  refine RW.sreg ?_
  refine rl.run 3 rfl ?_
  refine rl.done ?_
  refine RW.seq ?_
  refine RW.sreg ?_
  refine rl.run 6 rfl ?_
  refine rl.gen rfl rfl fun b hb => ?_
  cases b
  · have h1 := iteBF hF hb
    refine rl.done ?_
    refine RW.cond_f rfl ?_
    refine RW.skip ?_
    refine RW.sreg ?_
    refine rl.run 6 rfl ?_
    refine rl.done ?_
    refine RW.keep [4] (a' := [(4, .bool (decide (x0.Seq < x1.Seq)))]) (H' := [some ⟨[.int .i64 x0.Seq, .int .i64 x0.Rec.Kind, .int .i64 x0.Rec.Valid, .int .i64 x0.Rec.Uid, .int .i64 x0.Rec.Next, .int .i64 x0.Rec.Flags, .str x0.Rec.User, .str x0.Rec.Name, .str x0.Rec.Text], 0⟩, some ⟨[.int .i64 x1.Seq, .int .i64 x1.Rec.Kind, .int .i64 x1.Rec.Valid, .int .i64 x1.Rec.Uid, .int .i64 x1.Rec.Next, .int .i64 x1.Rec.Flags, .str x1.Rec.User, .str x1.Rec.Name, .str x1.Rec.Text], 0⟩]) rfl rfl ?_
    refine RW.ret ?_
    cases h1
    exact RRet.mk rfl .bool (by first | decide | simp)
  · have h2 := iteBT hF hb
    refine rl.done ?_
    refine RW.cond_t rfl ?_
    refine RW.sreg ?_
    refine rl.run 8 rfl ?_
    refine rl.done ?_
    refine RW.keep [4] (a' := [(4, .bool (decide (x0.Rec.Next < x1.Rec.Next)))]) (H' := [some ⟨[.int .i64 x0.Seq, .int .i64 x0.Rec.Kind, .int .i64 x0.Rec.Valid, .int .i64 x0.Rec.Uid, .int .i64 x0.Rec.Next, .int .i64 x0.Rec.Flags, .str x0.Rec.User, .str x0.Rec.Name, .str x0.Rec.Text], 0⟩, some ⟨[.int .i64 x1.Seq, .int .i64 x1.Rec.Kind, .int .i64 x1.Rec.Valid, .int .i64 x1.Rec.Uid, .int .i64 x1.Rec.Next, .int .i64 x1.Rec.Flags, .str x1.Rec.User, .str x1.Rec.Name, .str x1.Rec.Text], 0⟩]) rfl rfl ?_
    refine RW.ret ?_
    cases h2
    exact RRet.mk rfl .bool (by first | decide | simp)
theorem law_impl_latest_boxThere_2_byNext {x0 : List TItem} {x1 : Int} {r : TItem × Bool} (hF : F_impl_latest_boxThere_2_byNext x0 x1 = some r) : ACalls Try.prog 1 137 [.lst false 9 (fl (enc_TItem false) x0) x0.length, .fn 193 [.ptr 0 0], .fn 194 []] [some ⟨[.int .i64 x1], 0⟩] (.tup [.agg (enc_TItem true r.1), .bool r.2]) [some ⟨[.int .i64 x1], 0⟩] := by
  refine ACalls.of_s k_impl_latest rfl ?_
  unfold F_impl_latest_boxThere_2_byNext at hF
  refine RW.sreg ?_
  refine rl.run 2 rfl ?_
  refine rl.done ?_
  refine RW.sreg ?_
  refine rl.run 4 rfl ?_
  refine rl.done ?_
  refine RW.seq ?_
  refine RW.sreg ?_
  refine rl.run 3 rfl ?_
  refine rl.done ?_
  obtain ⟨y7, ey7, h2⟩ := bindS hF
  refine RW.cutq (σ := Bool × Int × Int × Int × Int × Int × Int × (List UInt8) × (List UInt8) × (List UInt8)) (fun y2 => [(6, .ptr 1 0), (8, .ptr 2 0), (9, .bool y2.1)]) (fun y2 => [some ⟨[.int .i64 x1], 0⟩, some ⟨[.int .i64 0, .int .i64 0, .int .i64 0, .int .i64 0, .int .i64 0, .int .i64 0, .str [], .str [], .str []], 0⟩, some ⟨[.int .i64 y2.2.1, .int .i64 y2.2.2.1, .int .i64 y2.2.2.2.1, .int .i64 y2.2.2.2.2.1, .int .i64 y2.2.2.2.2.2.1, .int .i64 y2.2.2.2.2.2.2.1, .str y2.2.2.2.2.2.2.2.1, .str y2.2.2.2.2.2.2.2.2.1, .str y2.2.2.2.2.2.2.2.2.2], 0⟩]) (fun y => y7 = y) (fun _ _ _ _ g h => RW.gh g h) ?_ ?_
  · refine RW.blk ?_
    refine RW.iter (σ := Bool × Int × Int × Int × Int × Int × Int × Int × (List UInt8) × (List UInt8) × (List UInt8)) ey7 (fun s1 => [(1, .fn 193 [.ptr 0 0]), (2, .fn 194 []), (6, .ptr 1 0), (8, .ptr 2 0), (9, .bool s1.1), (13, .lst false 9 (fl (enc_TItem false) x0) x0.length), (14, .int .i64 (x0.length : Int)), (15, .int .i64 s1.2.1)]) (fun s1 => [some ⟨[.int .i64 x1], 0⟩, some ⟨[.int .i64 0, .int .i64 0, .int .i64 0, .int .i64 0, .int .i64 0, .int .i64 0, .str [], .str [], .str []], 0⟩, some ⟨[.int .i64 s1.2.2.1, .int .i64 s1.2.2.2.1, .int .i64 s1.2.2.2.2.1, .int .i64 s1.2.2.2.2.2.1, .int .i64 s1.2.2.2.2.2.2.1, .int .i64 s1.2.2.2.2.2.2.2.1, .str s1.2.2.2.2.2.2.2.2.1, .str s1.2.2.2.2.2.2.2.2.2.1, .str s1.2.2.2.2.2.2.2.2.2.2], 0⟩]) (Gh.renN [0, 1, 2] (.cells rfl rfl (.keep .int .nil) (.cells rfl rfl (.keep .int (.keep .int (.keep .int (.keep .int (.keep .int (.keep .int (.keep .str (.keep .str (.keep .str .nil))))))))) (.cells rfl rfl (.keep .int (.keep .int (.keep .int (.keep .int (.keep .int (.keep .int (.keep .str (.keep .str (.keep .str .nil))))))))) .nil))) rfl rfl rfl (.cons rfl (RnL.fn (.cons (.ptr rfl) .nil)) (.cons rfl (RnL.fn .nil) (.cons rfl (.ptr rfl) (.cons rfl (.ptr rfl) (.cons rfl (.dat .bool) (.cons rfl (.dat (ek_TItem.rlst)) (.cons rfl (.dat .int) (.cons rfl (.dat .int) .nil))))))))) (fun s1 B o hS1 hB1 hE1 => ?_)
    unfold S_impl_latest_boxThere_2_byNext_1 at hS1
    refine RW.sreg ?_
    refine rl.gen rfl rfl fun b hb => ?_
    cases b
    · have h3 := iteBF hS1 hb
      refine rl.done ?_
      refine RW.seq ?_
      refine RW.cond_f rfl ?_
      refine RW.exit ?_
      refine blkA_eq ?_
      cases h3
      exact ⟨_, (hE1 _ rfl).symm, (Gh.renN [0, 1, 2] (.cells rfl rfl (.keep .int .nil) (.cells rfl rfl (.keep .int (.keep .int (.keep .int (.keep .int (.keep .int (.keep .int (.keep .str (.keep .str (.keep .str .nil))))))))) (.cells rfl rfl (.keep .int (.keep .int (.keep .int (.keep .int (.keep .int (.keep .int (.keep .str (.keep .str (.keep .str .nil))))))))) .nil))) rfl rfl rfl (.cons rfl (.ptr rfl) (.cons rfl (.ptr rfl) (.cons rfl (.dat .bool) .nil))))⟩
    · have h4 := iteBT hS1 hb
      refine rl.done ?_
      refine RW.seq ?_
      refine RW.cond_t rfl ?_
      refine RW.skip ?_
      refine RW.seq ?_
      refine RW.blk ?_
      refine RW.sreg ?_
      obtain ⟨v3, e3, h5⟩ := bindS h4
      refine rl.op (x_ia_lst (enc := enc_TItem) (o := false) rfl rfl rfl e3) ?_
      refine rl.op (x_ld_ela (off' := 0) (vs := (enc_TItem false v3)) ek_TItem rfl e3 rfl rfl rfl) ?_
      refine rl.run 2 rfl ?_
      refine rl.done ?_
      refine RW.seq ?_
      obtain ⟨y4, ey4, h6⟩ := bindS h5
      refine RW.cutq (σ := Bool) (fun y4 => [(1, .fn 193 [.ptr 0 0]), (2, .fn 194 []), (6, .ptr 1 0), (8, .ptr 2 0), (9, .bool s1.1), (11, .ptr 3 0), (13, .lst false 9 (fl (enc_TItem false) x0) x0.length), (14, .int .i64 (x0.length : Int)), (15, .int .i64 s1.2.1), (32, .bool y4)]) (fun y4 => [some ⟨[.int .i64 x1], 0⟩, some ⟨[.int .i64 0, .int .i64 0, .int .i64 0, .int .i64 0, .int .i64 0, .int .i64 0, .str [], .str [], .str []], 0⟩, some ⟨[.int .i64 s1.2.2.1, .int .i64 s1.2.2.2.1, .int .i64 s1.2.2.2.2.1, .int .i64 s1.2.2.2.2.2.1, .int .i64 s1.2.2.2.2.2.2.1, .int .i64 s1.2.2.2.2.2.2.2.1, .str s1.2.2.2.2.2.2.2.2.1, .str s1.2.2.2.2.2.2.2.2.2.1, .str s1.2.2.2.2.2.2.2.2.2.2], 0⟩, some ⟨[.int .i64 v3.Seq, .int .i64 v3.Rec.Kind, .int .i64 v3.Rec.Valid, .int .i64 v3.Rec.Uid, .int .i64 v3.Rec.Next, .int .i64 v3.Rec.Flags, .str v3.Rec.User, .str v3.Rec.Name, .str v3.Rec.Text], 0⟩]) (fun y => y4 = y) (fun _ _ _ _ g h => RW.gh g h) ?_ ?_
      · refine RW.reg ?_
        refine rl.run 3 rfl ?_
        obtain ⟨v5, e5, h7⟩ := bindS ey4
        refine rl.call rfl rfl rfl (CallW.embR [0] ok_impl_boxThere_2 (law_impl_boxThere_2_w e5) (.cells rfl rfl (.keep .int .nil) .nil) rfl rfl (.cons (RnL.agg (.cons (.dat .int) (.cons (.dat .int) (.cons (.dat .int) (.cons (.dat .int) (.cons (.dat .int) (.cons (.dat .str) (.cons (.dat .str) (.cons (.dat .str) .nil))))))))) (.cons (.ptr rfl) .nil)) .bool ?_)
        cases hb : v5
        · have h8 := iteBF h7 hb
          refine rl.run 10 rfl ?_
          refine rl.done ?_
          cases h8
          exact ⟨_, rfl, (Gh.renN [0, 1, 2, 3] (.cells rfl rfl (.keep .int .nil) (.cells rfl rfl (.keep .int (.keep .int (.keep .int (.keep .int (.keep .int (.keep .int (.keep .str (.keep .str (.keep .str .nil))))))))) (.cells rfl rfl (.keep .int (.keep .int (.keep .int (.keep .int (.keep .int (.keep .int (.keep .str (.keep .str (.keep .str .nil))))))))) (.cells rfl rfl (.keep .int (.keep .int (.keep .int (.keep .int (.keep .int (.keep .int (.keep .str (.keep .str (.keep .str .nil))))))))) .nil)))) rfl rfl rfl (.cons rfl (RnL.fn (.cons (.ptr rfl) .nil)) (.cons rfl (RnL.fn .nil) (.cons rfl (.ptr rfl) (.cons rfl (.ptr rfl) (.cons rfl (.dat .bool) (.cons rfl (.ptr rfl) (.cons rfl (.dat (ek_TItem.rlst)) (.cons rfl (.dat .int) (.cons rfl (.dat .int) (.cons rfl (.dat .bool) .nil)))))))))))⟩
        · have h9 := iteBT h7 hb
          refine rl.run 4 rfl ?_
          cases hb : (!s1.1)
          · have h10 := iteBF h9 hb
            refine rl.run 3 rfl ?_
            obtain ⟨v6, e6, h11⟩ := bindS h10
            refine rl.call rfl rfl rfl (CallW.val (r' := .bool v6) ok_impl_byNext (law_impl_byNext e6) (.cons (DFL.agg (.cons .int (.cons .int (.cons .int (.cons .int (.cons .int (.cons .int (.cons .str (.cons .str (.cons .str .nil)))))))))) (.cons (DFL.agg (.cons .int (.cons .int (.cons .int (.cons .int (.cons .int (.cons .int (.cons .str (.cons .str (.cons .str .nil)))))))))) .nil)) .refl ?_)
            cases hb : v6
            · have h12 := iteBF h11 hb
              refine rl.run 2 rfl ?_
              refine rl.done ?_
              cases h12
              exact ⟨_, rfl, (Gh.renN [0, 1, 2, 3] (.cells rfl rfl (.keep .int .nil) (.cells rfl rfl (.keep .int (.keep .int (.keep .int (.keep .int (.keep .int (.keep .int (.keep .str (.keep .str (.keep .str .nil))))))))) (.cells rfl rfl (.keep .int (.keep .int (.keep .int (.keep .int (.keep .int (.keep .int (.keep .str (.keep .str (.keep .str .nil))))))))) (.cells rfl rfl (.keep .int (.keep .int (.keep .int (.keep .int (.keep .int (.keep .int (.keep .str (.keep .str (.keep .str .nil))))))))) .nil)))) rfl rfl rfl (.cons rfl (RnL.fn (.cons (.ptr rfl) .nil)) (.cons rfl (RnL.fn .nil) (.cons rfl (.ptr rfl) (.cons rfl (.ptr rfl) (.cons rfl (.dat .bool) (.cons rfl (.ptr rfl) (.cons rfl (.dat (ek_TItem.rlst)) (.cons rfl (.dat .int) (.cons rfl (.dat .int) (.cons rfl (.dat .bool) .nil)))))))))))⟩
            · have h13 := iteBT h11 hb
              refine rl.run 2 rfl ?_
              refine rl.done ?_
              cases h13
              exact ⟨_, rfl, (Gh.renN [0, 1, 2, 3] (.cells rfl rfl (.keep .int .nil) (.cells rfl rfl (.keep .int (.keep .int (.keep .int (.keep .int (.keep .int (.keep .int (.keep .str (.keep .str (.keep .str .nil))))))))) (.cells rfl rfl (.keep .int (.keep .int (.keep .int (.keep .int (.keep .int (.keep .int (.keep .str (.keep .str (.keep .str .nil))))))))) (.cells rfl rfl (.keep .int (.keep .int (.keep .int (.keep .int (.keep .int (.keep .int (.keep .str (.keep .str (.keep .str .nil))))))))) .nil)))) rfl rfl rfl (.cons rfl (RnL.fn (.cons (.ptr rfl) .nil)) (.cons rfl (RnL.fn .nil) (.cons rfl (.ptr rfl) (.cons rfl (.ptr rfl) (.cons rfl (.dat .bool) (.cons rfl (.ptr rfl) (.cons rfl (.dat (ek_TItem.rlst)) (.cons rfl (.dat .int) (.cons rfl (.dat .int) (.cons rfl (.dat .bool) .nil)))))))))))⟩
          · have h14 := iteBT h9 hb
            refine rl.run 6 rfl ?_
            refine rl.done ?_
            cases h14
            exact ⟨_, rfl, (Gh.renN [0, 1, 2, 3] (.cells rfl rfl (.keep .int .nil) (.cells rfl rfl (.keep .int (.keep .int (.keep .int (.keep .int (.keep .int (.keep .int (.keep .str (.keep .str (.keep .str .nil))))))))) (.cells rfl rfl (.keep .int (.keep .int (.keep .int (.keep .int (.keep .int (.keep .int (.keep .str (.keep .str (.keep .str .nil))))))))) (.cells rfl rfl (.keep .int (.keep .int (.keep .int (.keep .int (.keep .int (.keep .int (.keep .str (.keep .str (.keep .str .nil))))))))) .nil)))) rfl rfl rfl (.cons rfl (RnL.fn (.cons (.ptr rfl) .nil)) (.cons rfl (RnL.fn .nil) (.cons rfl (.ptr rfl) (.cons rfl (.ptr rfl) (.cons rfl (.dat .bool) (.cons rfl (.ptr rfl) (.cons rfl (.dat (ek_TItem.rlst)) (.cons rfl (.dat .int) (.cons rfl (.dat .int) (.cons rfl (.dat .bool) .nil)))))))))))⟩
      · intro y hC
        subst hC
        cases hb : y4
        · have h15 := iteBF h6 hb
          refine RW.cond_f rfl ?_
          refine RW.skip ?_
          refine RW.reg ?_
          refine rl.run 2 rfl ?_
          refine rl.done ?_
          cases h15
          exact hB1 _ rfl _ _ (Gh.renN [0, 1, 2] (.cells rfl rfl (.keep .int .nil) (.cells rfl rfl (.keep .int (.keep .int (.keep .int (.keep .int (.keep .int (.keep .int (.keep .str (.keep .str (.keep .str .nil))))))))) (.cells rfl rfl (.keep .int (.keep .int (.keep .int (.keep .int (.keep .int (.keep .int (.keep .str (.keep .str (.keep .str .nil))))))))) .nil))) rfl rfl rfl (.cons rfl (RnL.fn (.cons (.ptr rfl) .nil)) (.cons rfl (RnL.fn .nil) (.cons rfl (.ptr rfl) (.cons rfl (.ptr rfl) (.cons rfl (.dat .bool) (.cons rfl (.dat (ek_TItem.rlst)) (.cons rfl (.dat .int) (.cons rfl (.dat .int) .nil)))))))))
        · have h16 := iteBT h6 hb
          refine RW.cond_t rfl ?_
          refine RW.reg ?_
          refine rl.run 3 rfl ?_
          refine rl.done ?_
          refine RW.reg ?_
          refine rl.run 2 rfl ?_
          refine rl.done ?_
          cases h16
          exact hB1 _ rfl _ _ (Gh.renN [0, 1, 2] (.cells rfl rfl (.keep .int .nil) (.cells rfl rfl (.keep .int (.keep .int (.keep .int (.keep .int (.keep .int (.keep .int (.keep .str (.keep .str (.keep .str .nil))))))))) (.cells rfl rfl (.keep .int (.keep .int (.keep .int (.keep .int (.keep .int (.keep .int (.keep .str (.keep .str (.keep .str .nil))))))))) .nil))) rfl rfl rfl (.cons rfl (RnL.fn (.cons (.ptr rfl) .nil)) (.cons rfl (RnL.fn .nil) (.cons rfl (.ptr rfl) (.cons rfl (.ptr rfl) (.cons rfl (.dat .bool) (.cons rfl (.dat (ek_TItem.rlst)) (.cons rfl (.dat .int) (.cons rfl (.dat .int) .nil)))))))))
  · intro y2 hC
    subst hC
    refine RW.sreg ?_
    refine rl.run 4 rfl ?_
    refine rl.done ?_
    refine RW.ret ?_
    cases h2
    exact RRetS.mk rfl (.tup (fac (.agg (sc_TItem _ _)) (fac .bool fan))) (Gh.renN [0] (.cells rfl rfl (.keep .int .nil) .nil) rfl rfl rfl .nil)
theorem law_impl_boxThere {x0 : List TItem} {x1 : Int} {r : TItem × Bool} (hF : F_impl_boxThere x0 x1 = some r) : PCalls Try.prog 135 [.lst false 9 (fl (enc_TItem false) x0) x0.length, .int .i64 x1] (.tup [.agg (enc_TItem true r.1), .bool r.2]) := by
  refine PCalls.of_r k_impl_boxThere rfl ?_
  unfold F_impl_boxThere at hF
  refine RW.sreg ?_
  refine rl.run 3 rfl ?_
  refine rl.done ?_
  refine RW.seq ?_
  refine RW.sreg ?_
  refine rl.run 2 rfl ?_
  obtain ⟨v1, e1, h1⟩ := bindS hF
  refine rl.call rfl rfl rfl (CallW.embR [0] ok_impl_latest (law_impl_latest_boxThere_1_bySeq e1) (.cells rfl rfl (.keep .int .nil) .nil) rfl rfl (.cons (.dat (ek_TItem.rlst)) (.cons (RnL.fn (.cons (.ptr rfl) .nil)) (.cons (RnL.fn .nil) .nil))) (.tup (fac (.agg (sc_TItem _ _)) (fac .bool fan))) ?_)
  refine rl.run 6 rfl ?_
  refine rl.done ?_
  refine RW.sreg ?_
  refine rl.run 1 rfl ?_
  refine rl.done ?_
  cases hb : v1.2
  · have h2 := iteBF h1 hb
    refine RW.cond_f rfl ?_
    refine RW.skip ?_
    refine RW.sreg ?_
    refine rl.run 2 rfl ?_
    obtain ⟨v2, e2, h3⟩ := bindS h2
    refine rl.call rfl rfl rfl (CallW.embR [0] ok_impl_latest (law_impl_latest_boxThere_2_byNext e2) (.cells rfl rfl (.keep .int .nil) .nil) rfl rfl (.cons (.dat (ek_TItem.rlst)) (.cons (RnL.fn (.cons (.ptr rfl) .nil)) (.cons (RnL.fn .nil) .nil))) (.tup (fac (.agg (sc_TItem _ _)) (fac .bool fan))) ?_)
    refine rl.run 4 rfl ?_
    refine rl.done ?_
    refine RW.keep [4, 5] (a' := [(4, .ptr 1 0), (5, .bool v2.2)]) (H' := [some ⟨[.int .i64 x1], 0⟩, some ⟨[.int .i64 v2.1.Seq, .int .i64 v2.1.Rec.Kind, .int .i64 v2.1.Rec.Valid, .int .i64 v2.1.Rec.Uid, .int .i64 v2.1.Rec.Next, .int .i64 v2.1.Rec.Flags, .str v2.1.Rec.User, .str v2.1.Rec.Name, .str v2.1.Rec.Text], 0⟩, some ⟨[.int .i64 v1.1.Seq, .int .i64 v1.1.Rec.Kind, .int .i64 v1.1.Rec.Valid, .int .i64 v1.1.Rec.Uid, .int .i64 v1.1.Rec.Next, .int .i64 v1.1.Rec.Flags, .str v1.1.Rec.User, .str v1.1.Rec.Name, .str v1.1.Rec.Text], 0⟩]) rfl rfl ?_
    refine RW.ret ?_
    cases h3
    exact RRet.mk rfl (OutT.tup (.cons (OutL.agg (.cons .int rfl (.cons .int rfl (.cons .int rfl (.cons .int rfl (.cons .int rfl (.cons .int rfl (.cons .str rfl (.cons .str rfl (.cons .str rfl .nil)))))))))) (.cons .bool .nil))) (by first | decide | simp)
  · have h4 := iteBT h1 hb
    refine RW.cond_t rfl ?_
    refine RW.sreg ?_
    refine rl.run 3 rfl ?_
    refine rl.done ?_
    refine RW.keep [4, 5] (a' := [(4, .ptr 1 0), (5, .bool false)]) (H' := [some ⟨[.int .i64 x1], 0⟩, some ⟨[.int .i64 0, .int .i64 0, .int .i64 0, .int .i64 0, .int .i64 0, .int .i64 0, .str [], .str [], .str []], 0⟩, some ⟨[.int .i64 v1.1.Seq, .int .i64 v1.1.Rec.Kind, .int .i64 v1.1.Rec.Valid, .int .i64 v1.1.Rec.Uid, .int .i64 v1.1.Rec.Next, .int .i64 v1.1.Rec.Flags, .str v1.1.Rec.User, .str v1.1.Rec.Name, .str v1.1.Rec.Text], 0⟩]) rfl rfl ?_
    refine RW.ret ?_
    cases h4
    exact RRet.mk rfl (OutT.tup (.cons (OutL.agg (.cons .int rfl (.cons .int rfl (.cons .int rfl (.cons .int rfl (.cons .int rfl (.cons .int rfl (.cons .str rfl (.cons .str rfl (.cons .str rfl .nil)))))))))) (.cons .bool .nil))) (by first | decide | simp)
theorem law_impl_needed_3_w {x0 : TRec} {x1 : TRec} {r : Bool} (hF : F_impl_needed_3_w x0 x1 = some r) : ACalls Try.prog 1 138 [.agg (enc_TRec false x0), .ptr 0 0] [some ⟨[.int .i64 x1.Kind, .int .i64 x1.Valid, .int .i64 x1.Uid, .int .i64 x1.Next, .int .i64 x1.Flags, .str x1.User, .str x1.Name, .str x1.Text], 0⟩] (.bool r) [some ⟨[.int .i64 x1.Kind, .int .i64 x1.Valid, .int .i64 x1.Uid, .int .i64 x1.Next, .int .i64 x1.Flags, .str x1.User, .str x1.Name, .str x1.Text], 0⟩] := by
  refine ACalls.of_s k_impl_needed_3 rfl ?_
  unfold F_impl_needed_3_w at hF
  refine RW.sreg ?_
  refine rl.run 2 rfl ?_
  refine rl.done ?_
  refine RW.sreg ?_
  refine rl.run 3 rfl ?_
  obtain ⟨v1, e1, h1⟩ := bindS hF
  refine rl.call rfl rfl rfl (CallW.val (r' := .bool v1) ok_impl_about (law_impl_about e1) (.cons (DFL.agg (.cons .int (.cons .int (.cons .int (.cons .int (.cons .int (.cons .str (.cons .str (.cons .str .nil))))))))) (.cons .int (.cons .int .nil))) .refl ?_)
  refine rl.run 1 rfl ?_
  refine rl.done ?_
  refine RW.ret ?_
  cases h1
  exact RRetS.mk rfl .bool (Gh.renN [0] (.cells rfl rfl (.keep .int (.keep .int (.keep .int (.keep .int (.keep .int (.keep .str (.keep .str (.keep .str .nil)))))))) .nil) rfl rfl rfl .nil)
theorem law_impl_latest_needed_3_bySeq {x0 : List TItem} {x1 : TRec} {r : TItem × Bool} (hF : F_impl_latest_needed_3_bySeq x0 x1 = some r) : ACalls Try.prog 1 137 [.lst false 9 (fl (enc_TItem false) x0) x0.length, .fn 138 [.ptr 0 0], .fn 140 []] [some ⟨[.int .i64 x1.Kind, .int .i64 x1.Valid, .int .i64 x1.Uid, .int .i64 x1.Next, .int .i64 x1.Flags, .str x1.User, .str x1.Name, .str x1.Text], 0⟩] (.tup [.agg (enc_TItem true r.1), .bool r.2]) [some ⟨[.int .i64 x1.Kind, .int .i64 x1.Valid, .int .i64 x1.Uid, .int .i64 x1.Next, .int .i64 x1.Flags, .str x1.User, .str x1.Name, .str x1.Text], 0⟩] := by
  refine ACalls.of_s k_impl_latest rfl ?_
  unfold F_impl_latest_needed_3_bySeq at hF
  refine RW.sreg ?_
  refine rl.run 2 rfl ?_
  refine rl.done ?_
  refine RW.sreg ?_
  refine rl.run 4 rfl ?_
  refine rl.done ?_
  refine RW.seq ?_
  refine RW.sreg ?_
  refine rl.run 3 rfl ?_
  refine rl.done ?_
  obtain ⟨y7, ey7, h2⟩ := bindS hF
  refine RW.cutq (σ := Bool × Int × Int × Int × Int × Int × Int × (List UInt8) × (List UInt8) × (List UInt8)) (fun y2 => [(6, .ptr 1 0), (8, .ptr 2 0), (9, .bool y2.1)]) (fun y2 => [some ⟨[.int .i64 x1.Kind, .int .i64 x1.Valid, .int .i64 x1.Uid, .int .i64 x1.Next, .int .i64 x1.Flags, .str x1.User, .str x1.Name, .str x1.Text], 0⟩, some ⟨[.int .i64 0, .int .i64 0, .int .i64 0, .int .i64 0, .int .i64 0, .int .i64 0, .str [], .str [], .str []], 0⟩, some ⟨[.int .i64 y2.2.1, .int .i64 y2.2.2.1, .int .i64 y2.2.2.2.1, .int .i64 y2.2.2.2.2.1, .int .i64 y2.2.2.2.2.2.1, .int .i64 y2.2.2.2.2.2.2.1, .str y2.2.2.2.2.2.2.2.1, .str y2.2.2.2.2.2.2.2.2.1, .str y2.2.2.2.2.2.2.2.2.2], 0⟩]) (fun y => y7 = y) (fun _ _ _ _ g h => RW.gh g h) ?_ ?_
  · refine RW.blk ?_
    refine RW.iter (σ := Bool × Int × Int × Int × Int × Int × Int × Int × (List UInt8) × (List UInt8) × (List UInt8)) ey7 (fun s1 => [(1, .fn 138 [.ptr 0 0]), (2, .fn 140 []), (6, .ptr 1 0), (8, .ptr 2 0), (9, .bool s1.1), (13, .lst false 9 (fl (enc_TItem false) x0) x0.length), (14, .int .i64 (x0.length : Int)), (15, .int .i64 s1.2.1)]) (fun s1 => [some ⟨[.int .i64 x1.Kind, .int .i64 x1.Valid, .int .i64 x1.Uid, .int .i64 x1.Next, .int .i64 x1.Flags, .str x1.User, .str x1.Name, .str x1.Text], 0⟩, some ⟨[.int .i64 0, .int .i64 0, .int .i64 0, .int .i64 0, .int .i64 0, .int .i64 0, .str [], .str [], .str []], 0⟩, some ⟨[.int .i64 s1.2.2.1, .int .i64 s1.2.2.2.1, .int .i64 s1.2.2.2.2.1, .int .i64 s1.2.2.2.2.2.1, .int .i64 s1.2.2.2.2.2.2.1, .int .i64 s1.2.2.2.2.2.2.2.1, .str s1.2.2.2.2.2.2.2.2.1, .str s1.2.2.2.2.2.2.2.2.2.1, .str s1.2.2.2.2.2.2.2.2.2.2], 0⟩]) (Gh.renN [0, 1, 2] (.cells rfl rfl (.keep .int (.keep .int (.keep .int (.keep .int (.keep .int (.keep .str (.keep .str (.keep .str .nil)))))))) (.cells rfl rfl (.keep .int (.keep .int (.keep .int (.keep .int (.keep .int (.keep .int (.keep .str (.keep .str (.keep .str .nil))))))))) (.cells rfl rfl (.keep .int (.keep .int (.keep .int (.keep .int (.keep .int (.keep .int (.keep .str (.keep .str (.keep .str .nil))))))))) .nil))) rfl rfl rfl (.cons rfl (RnL.fn (.cons (.ptr rfl) .nil)) (.cons rfl (RnL.fn .nil) (.cons rfl (.ptr rfl) (.cons rfl (.ptr rfl) (.cons rfl (.dat .bool) (.cons rfl (.dat (ek_TItem.rlst)) (.cons rfl (.dat .int) (.cons rfl (.dat .int) .nil))))))))) (fun s1 B o hS1 hB1 hE1 => ?_)
    unfold S_impl_latest_needed_3_bySeq_1 at hS1
    refine RW.sreg ?_
    refine rl.gen rfl rfl fun b hb => ?_
    cases b
    · have h3 := iteBF hS1 hb
      refine rl.done ?_
      refine RW.seq ?_
      refine RW.cond_f rfl ?_
      refine RW.exit ?_
      refine blkA_eq ?_
      cases h3
      exact ⟨_, (hE1 _ rfl).symm, (Gh.renN [0, 1, 2] (.cells rfl rfl (.keep .int (.keep .int (.keep .int (.keep .int (.keep .int (.keep .str (.keep .str (.keep .str .nil)))))))) (.cells rfl rfl (.keep .int (.keep .int (.keep .int (.keep .int (.keep .int (.keep .int (.keep .str (.keep .str (.keep .str .nil))))))))) (.cells rfl rfl (.keep .int (.keep .int (.keep .int (.keep .int (.keep .int (.keep .int (.keep .str (.keep .str (.keep .str .nil))))))))) .nil))) rfl rfl rfl (.cons rfl (.ptr rfl) (.cons rfl (.ptr rfl) (.cons rfl (.dat .bool) .nil))))⟩
    · have h4 := iteBT hS1 hb
      refine rl.done ?_
      refine RW.seq ?_
      refine RW.cond_t rfl ?_
      refine RW.skip ?_
      refine RW.seq ?_
      refine RW.blk ?_
      refine RW.sreg ?_
      obtain ⟨v3, e3, h5⟩ := bindS h4
      refine rl.op (x_ia_lst (enc := enc_TItem) (o := false) rfl rfl rfl e3) ?_
      refine rl.op (x_ld_ela (off' := 0) (vs := (enc_TItem false v3)) ek_TItem rfl e3 rfl rfl rfl) ?_
      refine rl.run 2 rfl ?_
      refine rl.done ?_
      refine RW.seq ?_
      obtain ⟨y4, ey4, h6⟩ := bindS h5
      refine RW.cutq (σ := Bool) (fun y4 => [(1, .fn 138 [.ptr 0 0]), (2, .fn 140 []), (6, .ptr 1 0), (8, .ptr 2 0), (9, .bool s1.1), (11, .ptr 3 0), (13, .lst false 9 (fl (enc_TItem false) x0) x0.length), (14, .int .i64 (x0.length : Int)), (15, .int .i64 s1.2.1), (32, .bool y4)]) (fun y4 => [some ⟨[.int .i64 x1.Kind, .int .i64 x1.Valid, .int .i64 x1.Uid, .int .i64 x1.Next, .int .i64 x1.Flags, .str x1.User, .str x1.Name, .str x1.Text], 0⟩, some ⟨[.int .i64 0, .int .i64 0, .int .i64 0, .int .i64 0, .int .i64 0, .int .i64 0, .str [], .str [], .str []], 0⟩, some ⟨[.int .i64 s1.2.2.1, .int .i64 s1.2.2.2.1, .int .i64 s1.2.2.2.2.1, .int .i64 s1.2.2.2.2.2.1, .int .i64 s1.2.2.2.2.2.2.1, .int .i64 s1.2.2.2.2.2.2.2.1, .str s1.2.2.2.2.2.2.2.2.1, .str s1.2.2.2.2.2.2.2.2.2.1, .str s1.2.2.2.2.2.2.2.2.2.2], 0⟩, some ⟨[.int .i64 v3.Seq, .int .i64 v3.Rec.Kind, .int .i64 v3.Rec.Valid, .int .i64 v3.Rec.Uid, .int .i64 v3.Rec.Next, .int .i64 v3.Rec.Flags, .str v3.Rec.User, .str v3.Rec.Name, .str v3.Rec.Text], 0⟩]) (fun y => y4 = y) (fun _ _ _ _ g h => RW.gh g h) ?_ ?_
      · refine RW.reg ?_
        refine rl.run 3 rfl ?_
        obtain ⟨v5, e5, h7⟩ := bindS ey4
        refine rl.call rfl rfl rfl (CallW.embR [0] ok_impl_needed_3 (law_impl_needed_3_w e5) (.cells rfl rfl (.keep .int (.keep .int (.keep .int (.keep .int (.keep .int (.keep .str (.keep .str (.keep .str .nil)))))))) .nil) rfl rfl (.cons (RnL.agg (.cons (.dat .int) (.cons (.dat .int) (.cons (.dat .int) (.cons (.dat .int) (.cons (.dat .int) (.cons (.dat .str) (.cons (.dat .str) (.cons (.dat .str) .nil))))))))) (.cons (.ptr rfl) .nil)) .bool ?_)
        cases hb : v5
        · have h8 := iteBF h7 hb
          refine rl.run 10 rfl ?_
          refine rl.done ?_
          cases h8
          exact ⟨_, rfl, (Gh.renN [0, 1, 2, 3] (.cells rfl rfl (.keep .int (.keep .int (.keep .int (.keep .int (.keep .int (.keep .str (.keep .str (.keep .str .nil)))))))) (.cells rfl rfl (.keep .int (.keep .int (.keep .int (.keep .int (.keep .int (.keep .int (.keep .str (.keep .str (.keep .str .nil))))))))) (.cells rfl rfl (.keep .int (.keep .int (.keep .int (.keep .int (.keep .int (.keep .int (.keep .str (.keep .str (.keep .str .nil))))))))) (.cells rfl rfl (.keep .int (.keep .int (.keep .int (.keep .int (.keep .int (.keep .int (.keep .str (.keep .str (.keep .str .nil))))))))) .nil)))) rfl rfl rfl (.cons rfl (RnL.fn (.cons (.ptr rfl) .nil)) (.cons rfl (RnL.fn .nil) (.cons rfl (.ptr rfl) (.cons rfl (.ptr rfl) (.cons rfl (.dat .bool) (.cons rfl (.ptr rfl) (.cons rfl (.dat (ek_TItem.rlst)) (.cons rfl (.dat .int) (.cons rfl (.dat .int) (.cons rfl (.dat .bool) .nil)))))))))))⟩
        · have h9 := iteBT h7 hb
          refine rl.run 4 rfl ?_
          cases hb : (!s1.1)
          · have h10 := iteBF h9 hb
            refine rl.run 3 rfl ?_
            obtain ⟨v6, e6, h11⟩ := bindS h10
            refine rl.call rfl rfl rfl (CallW.val (r' := .bool v6) ok_impl_bySeq (law_impl_bySeq e6) (.cons (DFL.agg (.cons .int (.cons .int (.cons .int (.cons .int (.cons .int (.cons .int (.cons .str (.cons .str (.cons .str .nil)))))))))) (.cons (DFL.agg (.cons .int (.cons .int (.cons .int (.cons .int (.cons .int (.cons .int (.cons .str (.cons .str (.cons .str .nil)))))))))) .nil)) .refl ?_)
            cases hb : v6
            · have h12 := iteBF h11 hb
              refine rl.run 2 rfl ?_
              refine rl.done ?_
              cases h12
              exact ⟨_, rfl, (Gh.renN [0, 1, 2, 3] (.cells rfl rfl (.keep .int (.keep .int (.keep .int (.keep .int (.keep .int (.keep .str (.keep .str (.keep .str .nil)))))))) (.cells rfl rfl (.keep .int (.keep .int (.keep .int (.keep .int (.keep .int (.keep .int (.keep .str (.keep .str (.keep .str .nil))))))))) (.cells rfl rfl (.keep .int (.keep .int (.keep .int (.keep .int (.keep .int (.keep .int (.keep .str (.keep .str (.keep .str .nil))))))))) (.cells rfl rfl (.keep .int (.keep .int (.keep .int (.keep .int (.keep .int (.keep .int (.keep .str (.keep .str (.keep .str .nil))))))))) .nil)))) rfl rfl rfl (.cons rfl (RnL.fn (.cons (.ptr rfl) .nil)) (.cons rfl (RnL.fn .nil) (.cons rfl (.ptr rfl) (.cons rfl (.ptr rfl) (.cons rfl (.dat .bool) (.cons rfl (.ptr rfl) (.cons rfl (.dat (ek_TItem.rlst)) (.cons rfl (.dat .int) (.cons rfl (.dat .int) (.cons rfl (.dat .bool) .nil)))))))))))⟩
            · have h13 := iteBT h11 hb
              refine rl.run 2 rfl ?_
              refine rl.done ?_
              cases h13
              exact ⟨_, rfl, (Gh.renN [0, 1, 2, 3] (.cells rfl rfl (.keep .int (.keep .int (.keep .int (.keep .int (.keep .int (.keep .str (.keep .str (.keep .str .nil)))))))) (.cells rfl rfl (.keep .int (.keep .int (.keep .int (.keep .int (.keep .int (.keep .int (.keep .str (.keep .str (.keep .str .nil))))))))) (.cells rfl rfl (.keep .int (.keep .int (.keep .int (.keep .int (.keep .int (.keep .int (.keep .str (.keep .str (.keep .str .nil))))))))) (.cells rfl rfl (.keep .int (.keep .int (.keep .int (.keep .int (.keep .int (.keep .int (.keep .str (.keep .str (.keep .str .nil))))))))) .nil)))) rfl rfl rfl (.cons rfl (RnL.fn (.cons (.ptr rfl) .nil)) (.cons rfl (RnL.fn .nil) (.cons rfl (.ptr rfl) (.cons rfl (.ptr rfl) (.cons rfl (.dat .bool) (.cons rfl (.ptr rfl) (.cons rfl (.dat (ek_TItem.rlst)) (.cons rfl (.dat .int) (.cons rfl (.dat .int) (.cons rfl (.dat .bool) .nil)))))))))))⟩
          · have h14 := iteBT h9 hb
            refine rl.run 6 rfl ?_
            refine rl.done ?_
            cases h14
            exact ⟨_, rfl, (Gh.renN [0, 1, 2, 3] (.cells rfl rfl (.keep .int (.keep .int (.keep .int (.keep .int (.keep .int (.keep .str (.keep .str (.keep .str .nil)))))))) (.cells rfl rfl (.keep .int (.keep .int (.keep .int (.keep .int (.keep .int (.keep .int (.keep .str (.keep .str (.keep .str .nil))))))))) (.cells rfl rfl (.keep .int (.keep .int (.keep .int (.keep .int (.keep .int (.keep .int (.keep .str (.keep .str (.keep .str .nil))))))))) (.cells rfl rfl (.keep .int (.keep .int (.keep .int (.keep .int (.keep .int (.keep .int (.keep .str (.keep .str (.keep .str .nil))))))))) .nil)))) rfl rfl rfl (.cons rfl (RnL.fn (.cons (.ptr rfl) .nil)) (.cons rfl (RnL.fn .nil) (.cons rfl (.ptr rfl) (.cons rfl (.ptr rfl) (.cons rfl (.dat .bool) (.cons rfl (.ptr rfl) (.cons rfl (.dat (ek_TItem.rlst)) (.cons rfl (.dat .int) (.cons rfl (.dat .int) (.cons rfl (.dat .bool) .nil)))))))))))⟩
      · intro y hC
        subst hC
        cases hb : y4
        · have h15 := iteBF h6 hb
          refine RW.cond_f rfl ?_
          refine RW.skip ?_
          refine RW.reg ?_
          refine rl.run 2 rfl ?_
          refine rl.done ?_
          cases h15
          exact hB1 _ rfl _ _ (Gh.renN [0, 1, 2] (.cells rfl rfl (.keep .int (.keep .int (.keep .int (.keep .int (.keep .int (.keep .str (.keep .str (.keep .str .nil)))))))) (.cells rfl rfl (.keep .int (.keep .int (.keep .int (.keep .int (.keep .int (.keep .int (.keep .str (.keep .str (.keep .str .nil))))))))) (.cells rfl rfl (.keep .int (.keep .int (.keep .int (.keep .int (.keep .int (.keep .int (.keep .str (.keep .str (.keep .str .nil))))))))) .nil))) rfl rfl rfl (.cons rfl (RnL.fn (.cons (.ptr rfl) .nil)) (.cons rfl (RnL.fn .nil) (.cons rfl (.ptr rfl) (.cons rfl (.ptr rfl) (.cons rfl (.dat .bool) (.cons rfl (.dat (ek_TItem.rlst)) (.cons rfl (.dat .int) (.cons rfl (.dat .int) .nil)))))))))
        · have h16 := iteBT h6 hb
          refine RW.cond_t rfl ?_
          refine RW.reg ?_
          refine rl.run 3 rfl ?_
          refine rl.done ?_
          refine RW.reg ?_
          refine rl.run 2 rfl ?_
          refine rl.done ?_
          cases h16
          exact hB1 _ rfl _ _ (Gh.renN [0, 1, 2] (.cells rfl rfl (.keep .int (.keep .int (.keep .int (.keep .int (.keep .int (.keep .str (.keep .str (.keep .str .nil)))))))) (.cells rfl rfl (.keep .int (.keep .int (.keep .int (.keep .int (.keep .int (.keep .int (.keep .str (.keep .str (.keep .str .nil))))))))) (.cells rfl rfl (.keep .int (.keep .int (.keep .int (.keep .int (.keep .int (.keep .int (.keep .str (.keep .str (.keep .str .nil))))))))) .nil))) rfl rfl rfl (.cons rfl (RnL.fn (.cons (.ptr rfl) .nil)) (.cons rfl (RnL.fn .nil) (.cons rfl (.ptr rfl) (.cons rfl (.ptr rfl) (.cons rfl (.dat .bool) (.cons rfl (.dat (ek_TItem.rlst)) (.cons rfl (.dat .int) (.cons rfl (.dat .int) .nil)))))))))
  · intro y2 hC
    subst hC
    refine RW.sreg ?_
    refine rl.run 4 rfl ?_
    refine rl.done ?_
    refine RW.ret ?_
    cases h2
    exact RRetS.mk rfl (.tup (fac (.agg (sc_TItem _ _)) (fac .bool fan))) (Gh.renN [0] (.cells rfl rfl (.keep .int (.keep .int (.keep .int (.keep .int (.keep .int (.keep .str (.keep .str (.keep .str .nil)))))))) .nil) rfl rfl rfl .nil)
theorem law_impl_mailItem_1_w {x0 : TRec} {x1 : Int} {x2 : Int} {x3 : Int} {r : Bool} (hF : F_impl_mailItem_1_w x0 x1 x2 x3 = some r) : ACalls Try.prog 3 195 [.agg (enc_TRec false x0), .ptr 0 0, .ptr 1 0, .ptr 2 0] [some ⟨[.int .i64 x1], 0⟩, some ⟨[.int .i64 x2], 0⟩, some ⟨[.int .i64 x3], 0⟩] (.bool r) [some ⟨[.int .i64 x1], 0⟩, some ⟨[.int .i64 x2], 0⟩, some ⟨[.int .i64 x3], 0⟩] := by
  refine ACalls.of_s k_impl_mailItem_1 rfl ?_
  unfold F_impl_mailItem_1_w at hF
  refine RW.sreg ?_
  refine rl.run 2 rfl ?_
  refine rl.done ?_
  refine RW.sreg ?_
  refine rl.run 3 rfl ?_
  obtain ⟨v1, e1, h1⟩ := bindS hF
  refine rl.call rfl rfl rfl (CallW.val (r' := .bool v1) ok_impl_about (law_impl_about e1) (.cons (DFL.agg (.cons .int (.cons .int (.cons .int (.cons .int (.cons .int (.cons .str (.cons .str (.cons .str .nil))))))))) (.cons .int (.cons .int .nil))) .refl ?_)
  cases hb : v1
  · have h2 := iteBF h1 hb
    refine rl.run 7 rfl ?_
    refine rl.done ?_
    refine RW.keep [5] (a' := [(5, .bool false)]) (H' := [some ⟨[.int .i64 x1], 0⟩, some ⟨[.int .i64 x2], 0⟩, some ⟨[.int .i64 x3], 0⟩, some ⟨[.int .i64 x0.Kind, .int .i64 x0.Valid, .int .i64 x0.Uid, .int .i64 x0.Next, .int .i64 x0.Flags, .str x0.User, .str x0.Name, .str x0.Text], 0⟩]) rfl rfl ?_
    refine RW.ret ?_
    cases h2
    exact RRetS.mk rfl .bool (Gh.renN [0, 1, 2] (.cells rfl rfl (.keep .int .nil) (.cells rfl rfl (.keep .int .nil) (.cells rfl rfl (.keep .int .nil) .nil))) rfl rfl rfl .nil)
  · have h3 := iteBT h1 hb
    refine rl.run 7 rfl ?_
    refine rl.done ?_
    refine RW.keep [5] (a' := [(5, .bool (x0.Uid == x3))]) (H' := [some ⟨[.int .i64 x1], 0⟩, some ⟨[.int .i64 x2], 0⟩, some ⟨[.int .i64 x3], 0⟩, some ⟨[.int .i64 x0.Kind, .int .i64 x0.Valid, .int .i64 x0.Uid, .int .i64 x0.Next, .int .i64 x0.Flags, .str x0.User, .str x0.Name, .str x0.Text], 0⟩]) rfl rfl ?_
    refine RW.ret ?_
    cases h3
    exact RRetS.mk rfl .bool (Gh.renN [0, 1, 2] (.cells rfl rfl (.keep .int .nil) (.cells rfl rfl (.keep .int .nil) (.cells rfl rfl (.keep .int .nil) .nil))) rfl rfl rfl .nil)
theorem law_impl_latest_mailItem_1_bySeq {x0 : List TItem} {x1 : Int} {x2 : Int} {x3 : Int} {r : TItem × Bool} (hF : F_impl_latest_mailItem_1_bySeq x0 x1 x2 x3 = some r) : ACalls Try.prog 3 137 [.lst false 9 (fl (enc_TItem false) x0) x0.length, .fn 195 [.ptr 0 0, .ptr 1 0, .ptr 2 0], .fn 140 []] [some ⟨[.int .i64 x1], 0⟩, some ⟨[.int .i64 x2], 0⟩, some ⟨[.int .i64 x3], 0⟩] (.tup [.agg (enc_TItem true r.1), .bool r.2]) [some ⟨[.int .i64 x1], 0⟩, some ⟨[.int .i64 x2], 0⟩, some ⟨[.int .i64 x3], 0⟩] := by
  refine ACalls.of_s k_impl_latest rfl ?_
  unfold F_impl_latest_mailItem_1_bySeq at hF
  refine RW.sreg ?_
  refine rl.run 2 rfl ?_
  refine rl.done ?_
  refine RW.sreg ?_
  refine rl.run 4 rfl ?_
  refine rl.done ?_
  refine RW.seq ?_
  refine RW.sreg ?_
  refine rl.run 3 rfl ?_
  refine rl.done ?_
  obtain ⟨y7, ey7, h2⟩ := bindS hF
  refine RW.cutq (σ := Bool × Int × Int × Int × Int × Int × Int × (List UInt8) × (List UInt8) × (List UInt8)) (fun y2 => [(6, .ptr 3 0), (8, .ptr 4 0), (9, .bool y2.1)]) (fun y2 => [some ⟨[.int .i64 x1], 0⟩, some ⟨[.int .i64 x2], 0⟩, some ⟨[.int .i64 x3], 0⟩, some ⟨[.int .i64 0, .int .i64 0, .int .i64 0, .int .i64 0, .int .i64 0, .int .i64 0, .str [], .str [], .str []], 0⟩, some ⟨[.int .i64 y2.2.1, .int .i64 y2.2.2.1, .int .i64 y2.2.2.2.1, .int .i64 y2.2.2.2.2.1, .int .i64 y2.2.2.2.2.2.1, .int .i64 y2.2.2.2.2.2.2.1, .str y2.2.2.2.2.2.2.2.1, .str y2.2.2.2.2.2.2.2.2.1, .str y2.2.2.2.2.2.2.2.2.2], 0⟩]) (fun y => y7 = y) (fun _ _ _ _ g h => RW.gh g h) ?_ ?_
  · refine RW.blk ?_
    refine RW.iter (σ := Bool × Int × Int × Int × Int × Int × Int × Int × (List UInt8) × (List UInt8) × (List UInt8)) ey7 (fun s1 => [(1, .fn 195 [.ptr 0 0, .ptr 1 0, .ptr 2 0]), (2, .fn 140 []), (6, .ptr 3 0), (8, .ptr 4 0), (9, .bool s1.1), (13, .lst false 9 (fl (enc_TItem false) x0) x0.length), (14, .int .i64 (x0.length : Int)), (15, .int .i64 s1.2.1)]) (fun s1 => [some ⟨[.int .i64 x1], 0⟩, some ⟨[.int .i64 x2], 0⟩, some ⟨[.int .i64 x3], 0⟩, some ⟨[.int .i64 0, .int .i64 0, .int .i64 0, .int .i64 0, .int .i64 0, .int .i64 0, .str [], .str [], .str []], 0⟩, some ⟨[.int .i64 s1.2.2.1, .int .i64 s1.2.2.2.1, .int .i64 s1.2.2.2.2.1, .int .i64 s1.2.2.2.2.2.1, .int .i64 s1.2.2.2.2.2.2.1, .int .i64 s1.2.2.2.2.2.2.2.1, .str s1.2.2.2.2.2.2.2.2.1, .str s1.2.2.2.2.2.2.2.2.2.1, .str s1.2.2.2.2.2.2.2.2.2.2], 0⟩]) (Gh.renN [0, 1, 2, 3, 4] (.cells rfl rfl (.keep .int .nil) (.cells rfl rfl (.keep .int .nil) (.cells rfl rfl (.keep .int .nil) (.cells rfl rfl (.keep .int (.keep .int (.keep .int (.keep .int (.keep .int (.keep .int (.keep .str (.keep .str (.keep .str .nil))))))))) (.cells rfl rfl (.keep .int (.keep .int (.keep .int (.keep .int (.keep .int (.keep .int (.keep .str (.keep .str (.keep .str .nil))))))))) .nil))))) rfl rfl rfl (.cons rfl (RnL.fn (.cons (.ptr rfl) (.cons (.ptr rfl) (.cons (.ptr rfl) .nil)))) (.cons rfl (RnL.fn .nil) (.cons rfl (.ptr rfl) (.cons rfl (.ptr rfl) (.cons rfl (.dat .bool) (.cons rfl (.dat (ek_TItem.rlst)) (.cons rfl (.dat .int) (.cons rfl (.dat .int) .nil))))))))) (fun s1 B o hS1 hB1 hE1 => ?_)
    unfold S_impl_latest_mailItem_1_bySeq_1 at hS1
    refine RW.sreg ?_
    refine rl.gen rfl rfl fun b hb => ?_
    cases b
    · have h3 := iteBF hS1 hb
      refine rl.done ?_
      refine RW.seq ?_
      refine RW.cond_f rfl ?_
      refine RW.exit ?_
      refine blkA_eq ?_
      cases h3
      exact ⟨_, (hE1 _ rfl).symm, (Gh.renN [0, 1, 2, 3, 4] (.cells rfl rfl (.keep .int .nil) (.cells rfl rfl (.keep .int .nil) (.cells rfl rfl (.keep .int .nil) (.cells rfl rfl (.keep .int (.keep .int (.keep .int (.keep .int (.keep .int (.keep .int (.keep .str (.keep .str (.keep .str .nil))))))))) (.cells rfl rfl (.keep .int (.keep .int (.keep .int (.keep .int (.keep .int (.keep .int (.keep .str (.keep .str (.keep .str .nil))))))))) .nil))))) rfl rfl rfl (.cons rfl (.ptr rfl) (.cons rfl (.ptr rfl) (.cons rfl (.dat .bool) .nil))))⟩
    · have h4 := iteBT hS1 hb
      refine rl.done ?_
      refine RW.seq ?_
      refine RW.cond_t rfl ?_
      refine RW.skip ?_
      refine RW.seq ?_
      refine RW.blk ?_
      refine RW.sreg ?_
      obtain ⟨v3, e3, h5⟩ := bindS h4
      refine rl.op (x_ia_lst (enc := enc_TItem) (o := false) rfl rfl rfl e3) ?_
      refine rl.op (x_ld_ela (off' := 0) (vs := (enc_TItem false v3)) ek_TItem rfl e3 rfl rfl rfl) ?_
      refine rl.run 2 rfl ?_
      refine rl.done ?_
      refine RW.seq ?_
      obtain ⟨y4, ey4, h6⟩ := bindS h5
      refine RW.cutq (σ := Bool) (fun y4 => [(1, .fn 195 [.ptr 0 0, .ptr 1 0, .ptr 2 0]), (2, .fn 140 []), (6, .ptr 3 0), (8, .ptr 4 0), (9, .bool s1.1), (11, .ptr 5 0), (13, .lst false 9 (fl (enc_TItem false) x0) x0.length), (14, .int .i64 (x0.length : Int)), (15, .int .i64 s1.2.1), (32, .bool y4)]) (fun y4 => [some ⟨[.int .i64 x1], 0⟩, some ⟨[.int .i64 x2], 0⟩, some ⟨[.int .i64 x3], 0⟩, some ⟨[.int .i64 0, .int .i64 0, .int .i64 0, .int .i64 0, .int .i64 0, .int .i64 0, .str [], .str [], .str []], 0⟩, some ⟨[.int .i64 s1.2.2.1, .int .i64 s1.2.2.2.1, .int .i64 s1.2.2.2.2.1, .int .i64 s1.2.2.2.2.2.1, .int .i64 s1.2.2.2.2.2.2.1, .int .i64 s1.2.2.2.2.2.2.2.1, .str s1.2.2.2.2.2.2.2.2.1, .str s1.2.2.2.2.2.2.2.2.2.1, .str s1.2.2.2.2.2.2.2.2.2.2], 0⟩, some ⟨[.int .i64 v3.Seq, .int .i64 v3.Rec.Kind, .int .i64 v3.Rec.Valid, .int .i64 v3.Rec.Uid, .int .i64 v3.Rec.Next, .int .i64 v3.Rec.Flags, .str v3.Rec.User, .str v3.Rec.Name, .str v3.Rec.Text], 0⟩]) (fun y => y4 = y) (fun _ _ _ _ g h => RW.gh g h) ?_ ?_
      · refine RW.reg ?_
        refine rl.run 3 rfl ?_
        obtain ⟨v5, e5, h7⟩ := bindS ey4
        refine rl.call rfl rfl rfl (CallW.embR [0, 1, 2] ok_impl_mailItem_1 (law_impl_mailItem_1_w e5) (.cells rfl rfl (.keep .int .nil) (.cells rfl rfl (.keep .int .nil) (.cells rfl rfl (.keep .int .nil) .nil))) rfl rfl (.cons (RnL.agg (.cons (.dat .int) (.cons (.dat .int) (.cons (.dat .int) (.cons (.dat .int) (.cons (.dat .int) (.cons (.dat .str) (.cons (.dat .str) (.cons (.dat .str) .nil))))))))) (.cons (.ptr rfl) (.cons (.ptr rfl) (.cons (.ptr rfl) .nil)))) .bool ?_)
        cases hb : v5
        · have h8 := iteBF h7 hb
          refine rl.run 10 rfl ?_
          refine rl.done ?_
          cases h8
          exact ⟨_, rfl, (Gh.renN [0, 1, 2, 3, 4, 5] (.cells rfl rfl (.keep .int .nil) (.cells rfl rfl (.keep .int .nil) (.cells rfl rfl (.keep .int .nil) (.cells rfl rfl (.keep .int (.keep .int (.keep .int (.keep .int (.keep .int (.keep .int (.keep .str (.keep .str (.keep .str .nil))))))))) (.cells rfl rfl (.keep .int (.keep .int (.keep .int (.keep .int (.keep .int (.keep .int (.keep .str (.keep .str (.keep .str .nil))))))))) (.cells rfl rfl (.keep .int (.keep .int (.keep .int (.keep .int (.keep .int (.keep .int (.keep .str (.keep .str (.keep .str .nil))))))))) .nil)))))) rfl rfl rfl (.cons rfl (RnL.fn (.cons (.ptr rfl) (.cons (.ptr rfl) (.cons (.ptr rfl) .nil)))) (.cons rfl (RnL.fn .nil) (.cons rfl (.ptr rfl) (.cons rfl (.ptr rfl) (.cons rfl (.dat .bool) (.cons rfl (.ptr rfl) (.cons rfl (.dat (ek_TItem.rlst)) (.cons rfl (.dat .int) (.cons rfl (.dat .int) (.cons rfl (.dat .bool) .nil)))))))))))⟩
        · have h9 := iteBT h7 hb
          refine rl.run 4 rfl ?_
          cases hb : (!s1.1)
          · have h10 := iteBF h9 hb
            refine rl.run 3 rfl ?_
            obtain ⟨v6, e6, h11⟩ := bindS h10
            refine rl.call rfl rfl rfl (CallW.val (r' := .bool v6) ok_impl_bySeq (law_impl_bySeq e6) (.cons (DFL.agg (.cons .int (.cons .int (.cons .int (.cons .int (.cons .int (.cons .int (.cons .str (.cons .str (.cons .str .nil)))))))))) (.cons (DFL.agg (.cons .int (.cons .int (.cons .int (.cons .int (.cons .int (.cons .int (.cons .str (.cons .str (.cons .str .nil)))))))))) .nil)) .refl ?_)
            cases hb : v6
            · have h12 := iteBF h11 hb
              refine rl.run 2 rfl ?_
              refine rl.done ?_
              cases h12
              exact ⟨_, rfl, (Gh.renN [0, 1, 2, 3, 4, 5] (.cells rfl rfl (.keep .int .nil) (.cells rfl rfl (.keep .int .nil) (.cells rfl rfl (.keep .int .nil) (.cells rfl rfl (.keep .int (.keep .int (.keep .int (.keep .int (.keep .int (.keep .int (.keep .str (.keep .str (.keep .str .nil))))))))) (.cells rfl rfl (.keep .int (.keep .int (.keep .int (.keep .int (.keep .int (.keep .int (.keep .str (.keep .str (.keep .str .nil))))))))) (.cells rfl rfl (.keep .int (.keep .int (.keep .int (.keep .int (.keep .int (.keep .int (.keep .str (.keep .str (.keep .str .nil))))))))) .nil)))))) rfl rfl rfl (.cons rfl (RnL.fn (.cons (.ptr rfl) (.cons (.ptr rfl) (.cons (.ptr rfl) .nil)))) (.cons rfl (RnL.fn .nil) (.cons rfl (.ptr rfl) (.cons rfl (.ptr rfl) (.cons rfl (.dat .bool) (.cons rfl (.ptr rfl) (.cons rfl (.dat (ek_TItem.rlst)) (.cons rfl (.dat .int) (.cons rfl (.dat .int) (.cons rfl (.dat .bool) .nil)))))))))))⟩
            · have h13 := iteBT h11 hb
              refine rl.run 2 rfl ?_
              refine rl.done ?_
              cases h13
              exact ⟨_, rfl, (Gh.renN [0, 1, 2, 3, 4, 5] (.cells rfl rfl (.keep .int .nil) (.cells rfl rfl (.keep .int .nil) (.cells rfl rfl (.keep .int .nil) (.cells rfl rfl (.keep .int (.keep .int (.keep .int (.keep .int (.keep .int (.keep .int (.keep .str (.keep .str (.keep .str .nil))))))))) (.cells rfl rfl (.keep .int (.keep .int (.keep .int (.keep .int (.keep .int (.keep .int (.keep .str (.keep .str (.keep .str .nil))))))))) (.cells rfl rfl (.keep .int (.keep .int (.keep .int (.keep .int (.keep .int (.keep .int (.keep .str (.keep .str (.keep .str .nil))))))))) .nil)))))) rfl rfl rfl (.cons rfl (RnL.fn (.cons (.ptr rfl) (.cons (.ptr rfl) (.cons (.ptr rfl) .nil)))) (.cons rfl (RnL.fn .nil) (.cons rfl (.ptr rfl) (.cons rfl (.ptr rfl) (.cons rfl (.dat .bool) (.cons rfl (.ptr rfl) (.cons rfl (.dat (ek_TItem.rlst)) (.cons rfl (.dat .int) (.cons rfl (.dat .int) (.cons rfl (.dat .bool) .nil)))))))))))⟩
          · have h14 := iteBT h9 hb
            refine rl.run 6 rfl ?_
            refine rl.done ?_
            cases h14
            exact ⟨_, rfl, (Gh.renN [0, 1, 2, 3, 4, 5] (.cells rfl rfl (.keep .int .nil) (.cells rfl rfl (.keep .int .nil) (.cells rfl rfl (.keep .int .nil) (.cells rfl rfl (.keep .int (.keep .int (.keep .int (.keep .int (.keep .int (.keep .int (.keep .str (.keep .str (.keep .str .nil))))))))) (.cells rfl rfl (.keep .int (.keep .int (.keep .int (.keep .int (.keep .int (.keep .int (.keep .str (.keep .str (.keep .str .nil))))))))) (.cells rfl rfl (.keep .int (.keep .int (.keep .int (.keep .int (.keep .int (.keep .int (.keep .str (.keep .str (.keep .str .nil))))))))) .nil)))))) rfl rfl rfl (.cons rfl (RnL.fn (.cons (.ptr rfl) (.cons (.ptr rfl) (.cons (.ptr rfl) .nil)))) (.cons rfl (RnL.fn .nil) (.cons rfl (.ptr rfl) (.cons rfl (.ptr rfl) (.cons rfl (.dat .bool) (.cons rfl (.ptr rfl) (.cons rfl (.dat (ek_TItem.rlst)) (.cons rfl (.dat .int) (.cons rfl (.dat .int) (.cons rfl (.dat .bool) .nil)))))))))))⟩
      · intro y hC
        subst hC
        cases hb : y4
        · have h15 := iteBF h6 hb
          refine RW.cond_f rfl ?_
          refine RW.skip ?_
          refine RW.reg ?_
          refine rl.run 2 rfl ?_
          refine rl.done ?_
          cases h15
          exact hB1 _ rfl _ _ (Gh.renN [0, 1, 2, 3, 4] (.cells rfl rfl (.keep .int .nil) (.cells rfl rfl (.keep .int .nil) (.cells rfl rfl (.keep .int .nil) (.cells rfl rfl (.keep .int (.keep .int (.keep .int (.keep .int (.keep .int (.keep .int (.keep .str (.keep .str (.keep .str .nil))))))))) (.cells rfl rfl (.keep .int (.keep .int (.keep .int (.keep .int (.keep .int (.keep .int (.keep .str (.keep .str (.keep .str .nil))))))))) .nil))))) rfl rfl rfl (.cons rfl (RnL.fn (.cons (.ptr rfl) (.cons (.ptr rfl) (.cons (.ptr rfl) .nil)))) (.cons rfl (RnL.fn .nil) (.cons rfl (.ptr rfl) (.cons rfl (.ptr rfl) (.cons rfl (.dat .bool) (.cons rfl (.dat (ek_TItem.rlst)) (.cons rfl (.dat .int) (.cons rfl (.dat .int) .nil)))))))))
        · have h16 := iteBT h6 hb
          refine RW.cond_t rfl ?_
          refine RW.reg ?_
          refine rl.run 3 rfl ?_
          refine rl.done ?_
          refine RW.reg ?_
          refine rl.run 2 rfl ?_
          refine rl.done ?_
          cases h16
          exact hB1 _ rfl _ _ (Gh.renN [0, 1, 2, 3, 4] (.cells rfl rfl (.keep .int .nil) (.cells rfl rfl (.keep .int .nil) (.cells rfl rfl (.keep .int .nil) (.cells rfl rfl (.keep .int (.keep .int (.keep .int (.keep .int (.keep .int (.keep .int (.keep .str (.keep .str (.keep .str .nil))))))))) (.cells rfl rfl (.keep .int (.keep .int (.keep .int (.keep .int (.keep .int (.keep .int (.keep .str (.keep .str (.keep .str .nil))))))))) .nil))))) rfl rfl rfl (.cons rfl (RnL.fn (.cons (.ptr rfl) (.cons (.ptr rfl) (.cons (.ptr rfl) .nil)))) (.cons rfl (RnL.fn .nil) (.cons rfl (.ptr rfl) (.cons rfl (.ptr rfl) (.cons rfl (.dat .bool) (.cons rfl (.dat (ek_TItem.rlst)) (.cons rfl (.dat .int) (.cons rfl (.dat .int) .nil)))))))))
  · intro y2 hC
    subst hC
    refine RW.sreg ?_
    refine rl.run 4 rfl ?_
    refine rl.done ?_
    refine RW.ret ?_
    cases h2
    exact RRetS.mk rfl (.tup (fac (.agg (sc_TItem _ _)) (fac .bool fan))) (Gh.renN [0, 1, 2] (.cells rfl rfl (.keep .int .nil) (.cells rfl rfl (.keep .int .nil) (.cells rfl rfl (.keep .int .nil) .nil))) rfl rfl rfl .nil)
theorem law_impl_mailItem {x0 : List TItem} {x1 : Int} {x2 : Int} {x3 : Int} {r : TItem × Bool} (hF : F_impl_mailItem x0 x1 x2 x3 = some r) : PCalls Try.prog 142 [.lst false 9 (fl (enc_TItem false) x0) x0.length, .int .i64 x1, .int .i64 x2, .int .i64 x3] (.tup [.agg (enc_TItem true r.1), .bool r.2]) := by
  refine PCalls.of_r k_impl_mailItem rfl ?_
  unfold F_impl_mailItem at hF
  refine RW.sreg ?_
  refine rl.run 5 rfl ?_
  refine rl.done ?_
  refine RW.sreg ?_
  refine rl.run 2 rfl ?_
  obtain ⟨v1, e1, h1⟩ := bindS hF
  refine rl.call rfl rfl rfl (CallW.embR [0, 1, 2] ok_impl_latest (law_impl_latest_mailItem_1_bySeq e1) (.cells rfl rfl (.keep .int .nil) (.cells rfl rfl (.keep .int .nil) (.cells rfl rfl (.keep .int .nil) .nil))) rfl rfl (.cons (.dat (ek_TItem.rlst)) (.cons (RnL.fn (.cons (.ptr rfl) (.cons (.ptr rfl) (.cons (.ptr rfl) .nil)))) (.cons (RnL.fn .nil) .nil))) (.tup (fac (.agg (sc_TItem _ _)) (fac .bool fan))) ?_)
  refine rl.run 4 rfl ?_
  refine rl.done ?_
  refine RW.keep [8, 9] (a' := [(8, .ptr 3 0), (9, .bool v1.2)]) (H' := [some ⟨[.int .i64 x1], 0⟩, some ⟨[.int .i64 x2], 0⟩, some ⟨[.int .i64 x3], 0⟩, some ⟨[.int .i64 v1.1.Seq, .int .i64 v1.1.Rec.Kind, .int .i64 v1.1.Rec.Valid, .int .i64 v1.1.Rec.Uid, .int .i64 v1.1.Rec.Next, .int .i64 v1.1.Rec.Flags, .str v1.1.Rec.User, .str v1.1.Rec.Name, .str v1.1.Rec.Text], 0⟩]) rfl rfl ?_
  refine RW.ret ?_
  cases h1
  exact RRet.mk rfl (OutT.tup (.cons (OutL.agg (.cons .int rfl (.cons .int rfl (.cons .int rfl (.cons .int rfl (.cons .int rfl (.cons .int rfl (.cons .str rfl (.cons .str rfl (.cons .str rfl .nil)))))))))) (.cons .bool .nil))) (by first | decide | simp)
theorem law_impl_mailThere {x0 : List TItem} {x1 : Int} {x2 : Int} {r : TItem × Bool} (hF : F_impl_mailThere x0 x1 x2 = some r) : PCalls Try.prog 141 [.lst false 9 (fl (enc_TItem false) x0) x0.length, .int .i64 x1, .int .i64 x2] (.tup [.agg (enc_TItem true r.1), .bool r.2]) := by
  refine PCalls.of_r k_impl_mailThere rfl ?_
  unfold F_impl_mailThere at hF
  refine RW.sreg ?_
  refine rl.run 2 rfl ?_
  refine rl.done ?_
  refine RW.seq ?_
  refine RW.sreg ?_
  refine rl.run 2 rfl ?_
  obtain ⟨v1, e1, h1⟩ := bindS hF
  refine rl.call rfl rfl rfl (CallW.val (r' := .tup [.agg (enc_TItem false v1.1), .bool v1.2]) ok_impl_boxThere (law_impl_boxThere e1) (.cons (.lst ek_TItem) (.cons .int .nil)) (FlL.tup (.cons .refl (.cons .refl .nil))) ?_)
  refine rl.run 6 rfl ?_
  refine rl.done ?_
  refine RW.sreg ?_
  refine rl.run 2 rfl ?_
  refine rl.done ?_
  cases hb : (!v1.2)
  · have h2 := iteBF h1 hb
    refine RW.cond_f rfl ?_
    refine RW.skip ?_
    refine RW.seq ?_
    refine RW.sreg ?_
    refine rl.run 3 rfl ?_
    obtain ⟨v2, e2, h3⟩ := bindS h2
    refine rl.call rfl rfl rfl (CallW.val (r' := .tup [.agg (enc_TItem false v2.1), .bool v2.2]) ok_impl_mailItem (law_impl_mailItem e2) (.cons (.lst ek_TItem) (.cons .int (.cons .int (.cons .int .nil)))) (FlL.tup (.cons .refl (.cons .refl .nil))) ?_)
    refine rl.run 6 rfl ?_
    refine rl.done ?_
    refine RW.keep [0, 1, 2, 6, 11] (a' := [(0, .lst false 9 (fl (enc_TItem false) x0) x0.length), (1, .int .i64 x1), (2, .int .i64 x2), (6, .ptr 0 0), (11, .bool v2.2)]) (H' := [some ⟨[.int .i64 0, .int .i64 0, .int .i64 0, .int .i64 0, .int .i64 0, .int .i64 0, .str [], .str [], .str []], 0⟩, some ⟨[.int .i64 v1.1.Seq, .int .i64 v1.1.Rec.Kind, .int .i64 v1.1.Rec.Valid, .int .i64 v1.1.Rec.Uid, .int .i64 v1.1.Rec.Next, .int .i64 v1.1.Rec.Flags, .str v1.1.Rec.User, .str v1.1.Rec.Name, .str v1.1.Rec.Text], 0⟩, some ⟨[.int .i64 v2.1.Seq, .int .i64 v2.1.Rec.Kind, .int .i64 v2.1.Rec.Valid, .int .i64 v2.1.Rec.Uid, .int .i64 v2.1.Rec.Next, .int .i64 v2.1.Rec.Flags, .str v2.1.Rec.User, .str v2.1.Rec.Name, .str v2.1.Rec.Text], 0⟩]) rfl rfl ?_
    refine RW.sreg ?_
    refine rl.run 1 rfl ?_
    refine rl.done ?_
    cases hb : v2.2
    · have h4 := iteBF h3 hb
      refine RW.cond_f rfl ?_
      refine RW.skip ?_
      refine RW.sreg ?_
      refine rl.run 3 rfl ?_
      obtain ⟨v3, e3, h5⟩ := bindS h4
      refine rl.call rfl rfl rfl (CallW.val (r' := .tup [.agg (enc_TItem false v3.1), .bool v3.2]) ok_impl_mailItem (law_impl_mailItem e3) (.cons (.lst ek_TItem) (.cons .int (.cons .int (.cons .int .nil)))) (FlL.tup (.cons .refl (.cons .refl .nil))) ?_)
      refine rl.run 4 rfl ?_
      refine rl.done ?_
      refine RW.keep [6, 7] (a' := [(6, .ptr 0 0), (7, .bool v3.2)]) (H' := [some ⟨[.int .i64 v3.1.Seq, .int .i64 v3.1.Rec.Kind, .int .i64 v3.1.Rec.Valid, .int .i64 v3.1.Rec.Uid, .int .i64 v3.1.Rec.Next, .int .i64 v3.1.Rec.Flags, .str v3.1.Rec.User, .str v3.1.Rec.Name, .str v3.1.Rec.Text], 0⟩, some ⟨[.int .i64 v1.1.Seq, .int .i64 v1.1.Rec.Kind, .int .i64 v1.1.Rec.Valid, .int .i64 v1.1.Rec.Uid, .int .i64 v1.1.Rec.Next, .int .i64 v1.1.Rec.Flags, .str v1.1.Rec.User, .str v1.1.Rec.Name, .str v1.1.Rec.Text], 0⟩, some ⟨[.int .i64 v2.1.Seq, .int .i64 v2.1.Rec.Kind, .int .i64 v2.1.Rec.Valid, .int .i64 v2.1.Rec.Uid, .int .i64 v2.1.Rec.Next, .int .i64 v2.1.Rec.Flags, .str v2.1.Rec.User, .str v2.1.Rec.Name, .str v2.1.Rec.Text], 0⟩]) rfl rfl ?_
      refine RW.ret ?_
      cases h5
      exact RRet.mk rfl (OutT.tup (.cons (OutL.agg (.cons .int rfl (.cons .int rfl (.cons .int rfl (.cons .int rfl (.cons .int rfl (.cons .int rfl (.cons .str rfl (.cons .str rfl (.cons .str rfl .nil)))))))))) (.cons .bool .nil))) (by first | decide | simp)
    · have h6 := iteBT h3 hb
      refine RW.cond_t rfl ?_
      refine RW.sreg ?_
      refine rl.run 3 rfl ?_
      refine rl.done ?_
      refine RW.ret ?_
      cases h6
      exact RRet.mk rfl (OutT.tup (.cons (OutL.agg (.cons .int rfl (.cons .int rfl (.cons .int rfl (.cons .int rfl (.cons .int rfl (.cons .int rfl (.cons .str rfl (.cons .str rfl (.cons .str rfl .nil)))))))))) (.cons .bool .nil))) (by first | decide | simp)
  · have h7 := iteBT h1 hb
    refine RW.cond_t rfl ?_
    refine RW.sreg ?_
    refine rl.run 3 rfl ?_
    refine rl.done ?_
    refine RW.keep [6, 7] (a' := [(6, .ptr 0 0), (7, .bool false)]) (H' := [some ⟨[.int .i64 0, .int .i64 0, .int .i64 0, .int .i64 0, .int .i64 0, .int .i64 0, .str [], .str [], .str []], 0⟩, some ⟨[.int .i64 v1.1.Seq, .int .i64 v1.1.Rec.Kind, .int .i64 v1.1.Rec.Valid, .int .i64 v1.1.Rec.Uid, .int .i64 v1.1.Rec.Next, .int .i64 v1.1.Rec.Flags, .str v1.1.Rec.User, .str v1.1.Rec.Name, .str v1.1.Rec.Text], 0⟩]) rfl rfl ?_
    refine RW.ret ?_
    cases h7
    exact RRet.mk rfl (OutT.tup (.cons (OutL.agg (.cons .int rfl (.cons .int rfl (.cons .int rfl (.cons .int rfl (.cons .int rfl (.cons .int rfl (.cons .str rfl (.cons .str rfl (.cons .str rfl .nil)))))))))) (.cons .bool .nil))) (by first | decide | simp)
theorem law_impl_needed {x0 : List TItem} {x1 : Int} {r : Bool} (hF : F_impl_needed x0 x1 = some r) : PCalls Try.prog 72 [.lst false 9 (fl (enc_TItem false) x0) x0.length, .int .i64 x1] (.bool r) := by
  refine PCalls.of_r k_impl_needed rfl ?_
  unfold F_impl_needed at hF
  refine RW.sreg ?_
  refine rl.run 1 rfl ?_
  refine rl.done ?_
  refine RW.sreg ?_
  refine rl.run 2 rfl ?_
  obtain ⟨v1, e1, h1⟩ := bindS hF
  refine rl.op (x_ia_lst (enc := enc_TItem) (o := false) rfl rfl rfl e1) ?_
  refine rl.op (x_ld_ela (off' := 0) (vs := (enc_TItem false v1)) ek_TItem rfl e1 rfl rfl rfl) ?_
  refine rl.run 2 rfl ?_
  refine rl.done ?_
  refine RW.seq ?_
  refine RW.sreg ?_
  refine rl.run 2 rfl ?_
  obtain ⟨v2, e2, h2⟩ := bindS h1
  refine rl.op (x_sle ek_TItem rfl rfl rfl abnd_hi e2) ?_
  refine rl.run 1 rfl ?_
  obtain ⟨v3, e3, h3⟩ := bindS h2
  refine rl.call rfl rfl rfl (CallW.embR [0] ok_slices_ContainsFunc_Item (law_slices_ContainsFunc_Item_needed_1 e3) (.cells rfl rfl (.keep .int (.keep .int (.keep .int (.keep .int (.keep .int (.keep .int (.keep .str (.keep .str (.keep .str .nil))))))))) .nil) rfl rfl (.cons (.dat (ek_TItem.rlst)) (.cons (RnL.fn (.cons (.ptr rfl) .nil)) .nil)) .bool ?_)
  cases hb : v3
  · have h4 := iteBF h3 hb
    refine rl.done ?_
    refine RW.cond_f rfl ?_
    refine RW.skip ?_
    refine RW.sreg ?_
    refine rl.run 4 rfl ?_
    refine rl.done ?_
    refine RW.keep [0, 5, 6] (a' := [(0, .lst false 9 (fl (enc_TItem false) x0) x0.length), (5, .ptr 0 0), (6, .ptr 1 0)]) (H' := [some ⟨[.int .i64 v1.Seq, .int .i64 v1.Rec.Kind, .int .i64 v1.Rec.Valid, .int .i64 v1.Rec.Uid, .int .i64 v1.Rec.Next, .int .i64 v1.Rec.Flags, .str v1.Rec.User, .str v1.Rec.Name, .str v1.Rec.Text], 0⟩, some ⟨[.int .i64 v1.Rec.Kind, .int .i64 v1.Rec.Valid, .int .i64 v1.Rec.Uid, .int .i64 v1.Rec.Next, .int .i64 v1.Rec.Flags, .str v1.Rec.User, .str v1.Rec.Name, .str v1.Rec.Text], 0⟩]) rfl rfl ?_
    refine RW.sreg ?_
    refine rl.run 4 rfl ?_
    refine rl.done ?_
    refine RW.seq ?_
    refine RW.sreg ?_
    refine rl.run 2 rfl ?_
    refine rl.done ?_
    obtain ⟨y4, ey4, h5⟩ := bindS h4
    refine RW.cutq (σ := Bool × Int × Int × Int × Int × Int × Int × (List UInt8) × (List UInt8) × (List UInt8)) (fun y4 => [(5, .ptr 0 0), (7, .ptr 1 0), (8, .bool y4.1)]) (fun y4 => [some ⟨[.int .i64 v1.Seq, .int .i64 v1.Rec.Kind, .int .i64 v1.Rec.Valid, .int .i64 v1.Rec.Uid, .int .i64 v1.Rec.Next, .int .i64 v1.Rec.Flags, .str v1.Rec.User, .str v1.Rec.Name, .str v1.Rec.Text], 0⟩, some ⟨[.int .i64 y4.2.1, .int .i64 y4.2.2.1, .int .i64 y4.2.2.2.1, .int .i64 y4.2.2.2.2.1, .int .i64 y4.2.2.2.2.2.1, .int .i64 y4.2.2.2.2.2.2.1, .str y4.2.2.2.2.2.2.2.1, .str y4.2.2.2.2.2.2.2.2.1, .str y4.2.2.2.2.2.2.2.2.2], 0⟩]) (fun y => y4 = .inr y) (fun _ _ _ _ g h => RW.gh g h) ?_ ?_
    · refine RW.blk ?_
      refine RW.sreg ?_
      refine rl.gen rfl rfl fun b hb => ?_
      cases b
      · have h6 := iteBF ey4 hb
        refine rl.run 1 rfl ?_
        refine rl.done ?_
        refine RW.cond_f rfl ?_
        refine RW.sreg ?_
        refine rl.gen rfl rfl fun b hb => ?_
        cases b
        · have h7 := iteBF h6 hb
          refine rl.run 1 rfl ?_
          refine rl.done ?_
          refine RW.cond_f rfl ?_
          refine RW.seq ?_
          refine RW.sreg ?_
          refine rl.gen rfl rfl fun b hb => ?_
          cases b
          · have h8 := iteBF h7 hb
            refine rl.run 1 rfl ?_
            refine rl.done ?_
            obtain ⟨y5, ey5, h9⟩ := bindS h8
            refine RW.cutq (σ := Bool) (fun y5 => [(0, .lst false 9 (fl (enc_TItem false) x0) x0.length), (5, .ptr 0 0), (6, .ptr 1 0), (7, .ptr 2 0), (8, .bool false), (28, .int .i64 v1.Rec.Kind), (50, .bool y5)]) (fun y5 => [some ⟨[.int .i64 v1.Seq, .int .i64 v1.Rec.Kind, .int .i64 v1.Rec.Valid, .int .i64 v1.Rec.Uid, .int .i64 v1.Rec.Next, .int .i64 v1.Rec.Flags, .str v1.Rec.User, .str v1.Rec.Name, .str v1.Rec.Text], 0⟩, some ⟨[.int .i64 v1.Rec.Kind, .int .i64 v1.Rec.Valid, .int .i64 v1.Rec.Uid, .int .i64 v1.Rec.Next, .int .i64 v1.Rec.Flags, .str v1.Rec.User, .str v1.Rec.Name, .str v1.Rec.Text], 0⟩, some ⟨[.int .i64 0, .int .i64 0, .int .i64 0, .int .i64 0, .int .i64 0, .int .i64 0, .str [], .str [], .str []], 0⟩]) (fun y => y5 = y) (fun _ _ _ _ g h => RW.gh g h) ?_ ?_
            · refine RW.cond_f rfl ?_
              refine RW.reg ?_
              refine rl.gen rfl rfl fun b hb => ?_
              cases b
              · have h10 := iteBF ey5 hb
                refine rl.run 1 rfl ?_
                refine rl.done ?_
                cases h10
                exact ⟨_, rfl, (Gh.ren0 [0, 1, 2] (.cells rfl rfl (.keep .int (.keep .int (.keep .int (.keep .int (.keep .int (.keep .int (.keep .str (.keep .str (.keep .str .nil))))))))) (.cells rfl rfl (.keep .int (.keep .int (.keep .int (.keep .int (.keep .int (.keep .str (.keep .str (.keep .str .nil)))))))) (.cells rfl rfl (.keep .int (.keep .int (.keep .int (.keep .int (.keep .int (.keep .int (.keep .str (.keep .str (.keep .str .nil))))))))) .nil))) rfl (.cons rfl (.dat (ek_TItem.rlst)) (.cons rfl (.ptr rfl) (.cons rfl (.ptr rfl) (.cons rfl (.ptr rfl) (.cons rfl (.dat .bool) (.cons rfl (.dat .int) (.cons rfl (.dat .bool) .nil))))))))⟩
              · have h11 := iteBT ey5 hb
                refine rl.run 1 rfl ?_
                refine rl.done ?_
                cases h11
                exact ⟨_, rfl, (Gh.ren0 [0, 1, 2] (.cells rfl rfl (.keep .int (.keep .int (.keep .int (.keep .int (.keep .int (.keep .int (.keep .str (.keep .str (.keep .str .nil))))))))) (.cells rfl rfl (.keep .int (.keep .int (.keep .int (.keep .int (.keep .int (.keep .str (.keep .str (.keep .str .nil)))))))) (.cells rfl rfl (.keep .int (.keep .int (.keep .int (.keep .int (.keep .int (.keep .int (.keep .str (.keep .str (.keep .str .nil))))))))) .nil))) rfl (.cons rfl (.dat (ek_TItem.rlst)) (.cons rfl (.ptr rfl) (.cons rfl (.ptr rfl) (.cons rfl (.ptr rfl) (.cons rfl (.dat .bool) (.cons rfl (.dat .int) (.cons rfl (.dat .bool) .nil))))))))⟩
            · intro y hC
              subst hC
              cases hb : y5
              · have h12 := iteBF h9 hb
                refine RW.cond_f rfl ?_
                refine RW.sreg ?_
                refine rl.gen rfl rfl fun b hb => ?_
                cases b
                · have h13 := iteBF h12 hb
                  refine rl.run 1 rfl ?_
                  refine rl.done ?_
                  refine RW.cond_f rfl ?_
                  refine RW.skip ?_
                  cases h13
                  exact ⟨_, rfl, (Gh.ren0 [0, 2] (.cells rfl rfl (.keep .int (.keep .int (.keep .int (.keep .int (.keep .int (.keep .int (.keep .str (.keep .str (.keep .str .nil))))))))) (.cells rfl rfl (.keep .int (.keep .int (.keep .int (.keep .int (.keep .int (.keep .int (.keep .str (.keep .str (.keep .str .nil))))))))) .nil)) rfl (.cons rfl (.ptr rfl) (.cons rfl (.ptr rfl) (.cons rfl (.dat .bool) .nil))))⟩
                · have h14 := iteBT h12 hb
                  refine rl.run 1 rfl ?_
                  refine rl.done ?_
                  refine RW.cond_t rfl ?_
                  refine RW.sreg ?_
                  refine rl.run 3 rfl ?_
                  obtain ⟨v6, e6, h15⟩ := bindS h14
                  refine rl.call rfl rfl rfl (CallW.val (r' := .tup [.agg (enc_TItem false v6.1), .bool v6.2]) ok_impl_boxThere (law_impl_boxThere e6) (.cons (.lst ek_TItem) (.cons .int .nil)) (FlL.tup (.cons .refl (.cons .refl .nil))) ?_)
                  refine rl.run 6 rfl ?_
                  refine rl.done ?_
                  refine RW.keep [0, 5, 6, 7, 12] (a' := [(0, .lst false 9 (fl (enc_TItem false) x0) x0.length), (5, .ptr 0 0), (6, .ptr 1 0), (7, .ptr 2 0), (12, .bool v6.2)]) (H' := [some ⟨[.int .i64 v1.Seq, .int .i64 v1.Rec.Kind, .int .i64 v1.Rec.Valid, .int .i64 v1.Rec.Uid, .int .i64 v1.Rec.Next, .int .i64 v1.Rec.Flags, .str v1.Rec.User, .str v1.Rec.Name, .str v1.Rec.Text], 0⟩, some ⟨[.int .i64 v1.Rec.Kind, .int .i64 v1.Rec.Valid, .int .i64 v1.Rec.Uid, .int .i64 v1.Rec.Next, .int .i64 v1.Rec.Flags, .str v1.Rec.User, .str v1.Rec.Name, .str v1.Rec.Text], 0⟩, some ⟨[.int .i64 0, .int .i64 0, .int .i64 0, .int .i64 0, .int .i64 0, .int .i64 0, .str [], .str [], .str []], 0⟩, some ⟨[.int .i64 v6.1.Seq, .int .i64 v6.1.Rec.Kind, .int .i64 v6.1.Rec.Valid, .int .i64 v6.1.Rec.Uid, .int .i64 v6.1.Rec.Next, .int .i64 v6.1.Rec.Flags, .str v6.1.Rec.User, .str v6.1.Rec.Name, .str v6.1.Rec.Text], 0⟩]) rfl rfl ?_
                  refine RW.sreg ?_
                  refine rl.run 5 rfl ?_
                  obtain ⟨v7, e7, h16⟩ := bindS h15
                  refine rl.call rfl rfl rfl (CallW.val (r' := .tup [.agg (enc_TItem false v7.1), .bool v7.2]) ok_impl_mailItem (law_impl_mailItem e7) (.cons (.lst ek_TItem) (.cons .int (.cons .int (.cons .int .nil)))) (FlL.tup (.cons .refl (.cons .refl .nil))) ?_)
                  refine rl.run 6 rfl ?_
                  refine rl.done ?_
                  refine RW.seq ?_
                  refine RW.sreg ?_
                  refine rl.run 3 rfl ?_
                  cases hb : (!v6.2)
                  · have h17 := iteBF h16 hb
                    refine rl.run 3 rfl ?_
                    refine rl.done ?_
                    refine RW.keep [0, 5, 6, 7, 98] (a' := [(0, .lst false 9 (fl (enc_TItem false) x0) x0.length), (5, .ptr 0 0), (6, .ptr 1 0), (7, .ptr 2 0), (98, .bool (!v7.2))]) (H' := [some ⟨[.int .i64 v1.Seq, .int .i64 v1.Rec.Kind, .int .i64 v1.Rec.Valid, .int .i64 v1.Rec.Uid, .int .i64 v1.Rec.Next, .int .i64 v1.Rec.Flags, .str v1.Rec.User, .str v1.Rec.Name, .str v1.Rec.Text], 0⟩, some ⟨[.int .i64 v1.Rec.Kind, .int .i64 v1.Rec.Valid, .int .i64 v1.Rec.Uid, .int .i64 v1.Rec.Next, .int .i64 v1.Rec.Flags, .str v1.Rec.User, .str v1.Rec.Name, .str v1.Rec.Text], 0⟩, some ⟨[.int .i64 0, .int .i64 0, .int .i64 0, .int .i64 0, .int .i64 0, .int .i64 0, .str [], .str [], .str []], 0⟩, some ⟨[.int .i64 v6.1.Seq, .int .i64 v6.1.Rec.Kind, .int .i64 v6.1.Rec.Valid, .int .i64 v6.1.Rec.Uid, .int .i64 v6.1.Rec.Next, .int .i64 v6.1.Rec.Flags, .str v6.1.Rec.User, .str v6.1.Rec.Name, .str v6.1.Rec.Text], 0⟩, some ⟨[.int .i64 v7.1.Seq, .int .i64 v7.1.Rec.Kind, .int .i64 v7.1.Rec.Valid, .int .i64 v7.1.Rec.Uid, .int .i64 v7.1.Rec.Next, .int .i64 v7.1.Rec.Flags, .str v7.1.Rec.User, .str v7.1.Rec.Name, .str v7.1.Rec.Text], 0⟩]) rfl rfl ?_
                    cases hb : (!v7.2)
                    · have h18 := iteBF h17 hb
                      refine RW.cond_f rfl ?_
                      refine RW.skip ?_
                      refine RW.reg ?_
                      refine rl.run 5 rfl ?_
                      obtain ⟨v8, e8, h19⟩ := bindS h18
                      refine rl.call rfl rfl rfl (CallW.val (r' := .tup [.agg (enc_TItem false v8.1), .bool v8.2]) ok_impl_mailItem (law_impl_mailItem e8) (.cons (.lst ek_TItem) (.cons .int (.cons .int (.cons .int .nil)))) (FlL.tup (.cons .refl (.cons .refl .nil))) ?_)
                      refine rl.run 5 rfl ?_
                      refine rl.done ?_
                      cases h19
                      exact ⟨_, rfl, (Gh.ren0 [0, 2] (.cells rfl rfl (.keep .int (.keep .int (.keep .int (.keep .int (.keep .int (.keep .int (.keep .str (.keep .str (.keep .str .nil))))))))) (.cells rfl rfl (.keep .int (.keep .int (.keep .int (.keep .int (.keep .int (.keep .int (.keep .str (.keep .str (.keep .str .nil))))))))) .nil)) rfl (.cons rfl (.ptr rfl) (.cons rfl (.ptr rfl) (.cons rfl (.dat .bool) .nil))))⟩
                    · have h20 := iteBT h17 hb
                      refine RW.cond_t rfl ?_
                      refine RW.sreg ?_
                      refine rl.run 1 rfl ?_
                      refine rl.done ?_
                      refine RW.ret ?_
                      cases h20
                      have h21 := elimL h5 rfl
                      cases h21
                      exact RRet.mk rfl .bool (by first | decide | simp)
                  · have h22 := iteBT h16 hb
                    refine rl.run 3 rfl ?_
                    refine rl.done ?_
                    refine RW.keep [0, 5, 6, 7, 98] (a' := [(0, .lst false 9 (fl (enc_TItem false) x0) x0.length), (5, .ptr 0 0), (6, .ptr 1 0), (7, .ptr 2 0), (98, .bool true)]) (H' := [some ⟨[.int .i64 v1.Seq, .int .i64 v1.Rec.Kind, .int .i64 v1.Rec.Valid, .int .i64 v1.Rec.Uid, .int .i64 v1.Rec.Next, .int .i64 v1.Rec.Flags, .str v1.Rec.User, .str v1.Rec.Name, .str v1.Rec.Text], 0⟩, some ⟨[.int .i64 v1.Rec.Kind, .int .i64 v1.Rec.Valid, .int .i64 v1.Rec.Uid, .int .i64 v1.Rec.Next, .int .i64 v1.Rec.Flags, .str v1.Rec.User, .str v1.Rec.Name, .str v1.Rec.Text], 0⟩, some ⟨[.int .i64 0, .int .i64 0, .int .i64 0, .int .i64 0, .int .i64 0, .int .i64 0, .str [], .str [], .str []], 0⟩, some ⟨[.int .i64 v6.1.Seq, .int .i64 v6.1.Rec.Kind, .int .i64 v6.1.Rec.Valid, .int .i64 v6.1.Rec.Uid, .int .i64 v6.1.Rec.Next, .int .i64 v6.1.Rec.Flags, .str v6.1.Rec.User, .str v6.1.Rec.Name, .str v6.1.Rec.Text], 0⟩, some ⟨[.int .i64 v7.1.Seq, .int .i64 v7.1.Rec.Kind, .int .i64 v7.1.Rec.Valid, .int .i64 v7.1.Rec.Uid, .int .i64 v7.1.Rec.Next, .int .i64 v7.1.Rec.Flags, .str v7.1.Rec.User, .str v7.1.Rec.Name, .str v7.1.Rec.Text], 0⟩]) rfl rfl ?_
                    refine RW.cond_t rfl ?_
                    refine RW.sreg ?_
                    refine rl.run 1 rfl ?_
                    refine rl.done ?_
                    refine RW.ret ?_
                    cases h22
                    have h23 := elimL h5 rfl
                    cases h23
                    exact RRet.mk rfl .bool (by first | decide | simp)
              · have h24 := iteBT h9 hb
                refine RW.cond_t rfl ?_
                refine RW.seq ?_
                refine RW.sreg ?_
                refine rl.run 5 rfl ?_
                obtain ⟨v9, e9, h25⟩ := bindS h24
                refine rl.call rfl rfl rfl (CallW.val (r' := .tup [.agg (enc_TItem false v9.1), .bool v9.2]) ok_impl_mailThere (law_impl_mailThere e9) (.cons (.lst ek_TItem) (.cons .int (.cons .int .nil))) (FlL.tup (.cons .refl (.cons .refl .nil))) ?_)
                refine rl.run 6 rfl ?_
                refine rl.done ?_
                refine RW.keep [0, 5, 6, 7, 10] (a' := [(0, .lst false 9 (fl (enc_TItem false) x0) x0.length), (5, .ptr 0 0), (6, .ptr 1 0), (7, .ptr 2 0), (10, .bool v9.2)]) (H' := [some ⟨[.int .i64 v1.Seq, .int .i64 v1.Rec.Kind, .int .i64 v1.Rec.Valid, .int .i64 v1.Rec.Uid, .int .i64 v1.Rec.Next, .int .i64 v1.Rec.Flags, .str v1.Rec.User, .str v1.Rec.Name, .str v1.Rec.Text], 0⟩, some ⟨[.int .i64 v1.Rec.Kind, .int .i64 v1.Rec.Valid, .int .i64 v1.Rec.Uid, .int .i64 v1.Rec.Next, .int .i64 v1.Rec.Flags, .str v1.Rec.User, .str v1.Rec.Name, .str v1.Rec.Text], 0⟩, some ⟨[.int .i64 0, .int .i64 0, .int .i64 0, .int .i64 0, .int .i64 0, .int .i64 0, .str [], .str [], .str []], 0⟩, some ⟨[.int .i64 v9.1.Seq, .int .i64 v9.1.Rec.Kind, .int .i64 v9.1.Rec.Valid, .int .i64 v9.1.Rec.Uid, .int .i64 v9.1.Rec.Next, .int .i64 v9.1.Rec.Flags, .str v9.1.Rec.User, .str v9.1.Rec.Name, .str v9.1.Rec.Text], 0⟩]) rfl rfl ?_
                refine RW.sreg ?_
                refine rl.run 2 rfl ?_
                refine rl.done ?_
                cases hb : (!v9.2)
                · have h26 := iteBF h25 hb
                  refine RW.cond_f rfl ?_
                  refine RW.skip ?_
                  refine RW.reg ?_
                  refine rl.run 7 rfl ?_
                  obtain ⟨v10, e10, h27⟩ := bindS h26
                  refine rl.call rfl rfl rfl (CallW.val (r' := .tup [.agg (enc_TItem false v10.1), .bool v10.2]) ok_impl_mailItem (law_impl_mailItem e10) (.cons (.lst ek_TItem) (.cons .int (.cons .int (.cons .int .nil)))) (FlL.tup (.cons .refl (.cons .refl .nil))) ?_)
                  refine rl.run 5 rfl ?_
                  refine rl.done ?_
                  cases h27
                  exact ⟨_, rfl, (Gh.ren0 [0, 2] (.cells rfl rfl (.keep .int (.keep .int (.keep .int (.keep .int (.keep .int (.keep .int (.keep .str (.keep .str (.keep .str .nil))))))))) (.cells rfl rfl (.keep .int (.keep .int (.keep .int (.keep .int (.keep .int (.keep .int (.keep .str (.keep .str (.keep .str .nil))))))))) .nil)) rfl (.cons rfl (.ptr rfl) (.cons rfl (.ptr rfl) (.cons rfl (.dat .bool) .nil))))⟩
                · have h28 := iteBT h25 hb
                  refine RW.cond_t rfl ?_
                  refine RW.sreg ?_
                  refine rl.run 1 rfl ?_
                  refine rl.done ?_
                  refine RW.ret ?_
                  cases h28
                  have h29 := elimL h5 rfl
                  cases h29
                  exact RRet.mk rfl .bool (by first | decide | simp)
          · have h30 := iteBT h7 hb
            refine rl.run 1 rfl ?_
            refine rl.done ?_
            refine RW.cond_t rfl ?_
            refine RW.skip ?_
            refine RW.cond_t rfl ?_
            refine RW.seq ?_
            refine RW.sreg ?_
            refine rl.run 5 rfl ?_
            obtain ⟨v11, e11, h31⟩ := bindS h30
            refine rl.call rfl rfl rfl (CallW.val (r' := .tup [.agg (enc_TItem false v11.1), .bool v11.2]) ok_impl_mailThere (law_impl_mailThere e11) (.cons (.lst ek_TItem) (.cons .int (.cons .int .nil))) (FlL.tup (.cons .refl (.cons .refl .nil))) ?_)
            refine rl.run 6 rfl ?_
            refine rl.done ?_
            refine RW.keep [0, 5, 6, 7, 10] (a' := [(0, .lst false 9 (fl (enc_TItem false) x0) x0.length), (5, .ptr 0 0), (6, .ptr 1 0), (7, .ptr 2 0), (10, .bool v11.2)]) (H' := [some ⟨[.int .i64 v1.Seq, .int .i64 v1.Rec.Kind, .int .i64 v1.Rec.Valid, .int .i64 v1.Rec.Uid, .int .i64 v1.Rec.Next, .int .i64 v1.Rec.Flags, .str v1.Rec.User, .str v1.Rec.Name, .str v1.Rec.Text], 0⟩, some ⟨[.int .i64 v1.Rec.Kind, .int .i64 v1.Rec.Valid, .int .i64 v1.Rec.Uid, .int .i64 v1.Rec.Next, .int .i64 v1.Rec.Flags, .str v1.Rec.User, .str v1.Rec.Name, .str v1.Rec.Text], 0⟩, some ⟨[.int .i64 0, .int .i64 0, .int .i64 0, .int .i64 0, .int .i64 0, .int .i64 0, .str [], .str [], .str []], 0⟩, some ⟨[.int .i64 v11.1.Seq, .int .i64 v11.1.Rec.Kind, .int .i64 v11.1.Rec.Valid, .int .i64 v11.1.Rec.Uid, .int .i64 v11.1.Rec.Next, .int .i64 v11.1.Rec.Flags, .str v11.1.Rec.User, .str v11.1.Rec.Name, .str v11.1.Rec.Text], 0⟩]) rfl rfl ?_
            refine RW.sreg ?_
            refine rl.run 2 rfl ?_
            refine rl.done ?_
            cases hb : (!v11.2)
            · have h32 := iteBF h31 hb
              refine RW.cond_f rfl ?_
              refine RW.skip ?_
              refine RW.reg ?_
              refine rl.run 7 rfl ?_
              obtain ⟨v12, e12, h33⟩ := bindS h32
              refine rl.call rfl rfl rfl (CallW.val (r' := .tup [.agg (enc_TItem false v12.1), .bool v12.2]) ok_impl_mailItem (law_impl_mailItem e12) (.cons (.lst ek_TItem) (.cons .int (.cons .int (.cons .int .nil)))) (FlL.tup (.cons .refl (.cons .refl .nil))) ?_)
              refine rl.run 5 rfl ?_
              refine rl.done ?_
              cases h33
              exact ⟨_, rfl, (Gh.ren0 [0, 2] (.cells rfl rfl (.keep .int (.keep .int (.keep .int (.keep .int (.keep .int (.keep .int (.keep .str (.keep .str (.keep .str .nil))))))))) (.cells rfl rfl (.keep .int (.keep .int (.keep .int (.keep .int (.keep .int (.keep .int (.keep .str (.keep .str (.keep .str .nil))))))))) .nil)) rfl (.cons rfl (.ptr rfl) (.cons rfl (.ptr rfl) (.cons rfl (.dat .bool) .nil))))⟩
            · have h34 := iteBT h31 hb
              refine RW.cond_t rfl ?_
              refine RW.sreg ?_
              refine rl.run 1 rfl ?_
              refine rl.done ?_
              refine RW.ret ?_
              cases h34
              have h35 := elimL h5 rfl
              cases h35
              exact RRet.mk rfl .bool (by first | decide | simp)
        · have h36 := iteBT h6 hb
          refine rl.run 1 rfl ?_
          refine rl.done ?_
          refine RW.cond_t rfl ?_
          refine RW.seq ?_
          refine RW.sreg ?_
          refine rl.run 2 rfl ?_
          obtain ⟨v13, e13, h37⟩ := bindS h36
          refine rl.call rfl rfl rfl (CallW.embR [1] ok_slices_ContainsFunc_Item (law_slices_ContainsFunc_Item_needed_2 e13) (.cells rfl rfl (.keep .int (.keep .int (.keep .int (.keep .int (.keep .int (.keep .str (.keep .str (.keep .str .nil)))))))) .nil) rfl rfl (.cons (.dat (ek_TItem.rlst)) (.cons (RnL.fn (.cons (.ptr rfl) .nil)) .nil)) .bool ?_)
          cases hb : v13
          · have h38 := iteBF h37 hb
            refine rl.run 1 rfl ?_
            refine rl.done ?_
            refine RW.keep [0, 5, 6, 7, 43] (a' := [(0, .lst false 9 (fl (enc_TItem false) x0) x0.length), (5, .ptr 0 0), (6, .ptr 1 0), (7, .ptr 2 0), (43, .bool true)]) (H' := [some ⟨[.int .i64 v1.Seq, .int .i64 v1.Rec.Kind, .int .i64 v1.Rec.Valid, .int .i64 v1.Rec.Uid, .int .i64 v1.Rec.Next, .int .i64 v1.Rec.Flags, .str v1.Rec.User, .str v1.Rec.Name, .str v1.Rec.Text], 0⟩, some ⟨[.int .i64 v1.Rec.Kind, .int .i64 v1.Rec.Valid, .int .i64 v1.Rec.Uid, .int .i64 v1.Rec.Next, .int .i64 v1.Rec.Flags, .str v1.Rec.User, .str v1.Rec.Name, .str v1.Rec.Text], 0⟩, some ⟨[.int .i64 0, .int .i64 0, .int .i64 0, .int .i64 0, .int .i64 0, .int .i64 0, .str [], .str [], .str []], 0⟩]) rfl rfl ?_
            refine RW.cond_t rfl ?_
            refine RW.sreg ?_
            refine rl.run 1 rfl ?_
            refine rl.done ?_
            refine RW.ret ?_
            cases h38
            have h39 := elimL h5 rfl
            cases h39
            exact RRet.mk rfl .bool (by first | decide | simp)
          · have h40 := iteBT h37 hb
            refine rl.run 1 rfl ?_
            refine rl.done ?_
            refine RW.keep [0, 5, 6, 7, 43] (a' := [(0, .lst false 9 (fl (enc_TItem false) x0) x0.length), (5, .ptr 0 0), (6, .ptr 1 0), (7, .ptr 2 0), (43, .bool false)]) (H' := [some ⟨[.int .i64 v1.Seq, .int .i64 v1.Rec.Kind, .int .i64 v1.Rec.Valid, .int .i64 v1.Rec.Uid, .int .i64 v1.Rec.Next, .int .i64 v1.Rec.Flags, .str v1.Rec.User, .str v1.Rec.Name, .str v1.Rec.Text], 0⟩, some ⟨[.int .i64 v1.Rec.Kind, .int .i64 v1.Rec.Valid, .int .i64 v1.Rec.Uid, .int .i64 v1.Rec.Next, .int .i64 v1.Rec.Flags, .str v1.Rec.User, .str v1.Rec.Name, .str v1.Rec.Text], 0⟩, some ⟨[.int .i64 0, .int .i64 0, .int .i64 0, .int .i64 0, .int .i64 0, .int .i64 0, .str [], .str [], .str []], 0⟩]) rfl rfl ?_
            refine RW.cond_f rfl ?_
            refine RW.skip ?_
            refine RW.reg ?_
            refine rl.run 2 rfl ?_
            obtain ⟨v14, e14, h41⟩ := bindS h40
            refine rl.call rfl rfl rfl (CallW.embR [1] ok_impl_latest (law_impl_latest_needed_3_bySeq e14) (.cells rfl rfl (.keep .int (.keep .int (.keep .int (.keep .int (.keep .int (.keep .str (.keep .str (.keep .str .nil)))))))) .nil) rfl rfl (.cons (.dat (ek_TItem.rlst)) (.cons (RnL.fn (.cons (.ptr rfl) .nil)) (.cons (RnL.fn .nil) .nil))) (.tup (fac (.agg (sc_TItem _ _)) (fac .bool fan))) ?_)
            refine rl.run 5 rfl ?_
            refine rl.done ?_
            cases h41
            exact ⟨_, rfl, (Gh.ren0 [0, 2] (.cells rfl rfl (.keep .int (.keep .int (.keep .int (.keep .int (.keep .int (.keep .int (.keep .str (.keep .str (.keep .str .nil))))))))) (.cells rfl rfl (.keep .int (.keep .int (.keep .int (.keep .int (.keep .int (.keep .int (.keep .str (.keep .str (.keep .str .nil))))))))) .nil)) rfl (.cons rfl (.ptr rfl) (.cons rfl (.ptr rfl) (.cons rfl (.dat .bool) .nil))))⟩
      · have h42 := iteBT ey4 hb
        refine rl.run 1 rfl ?_
        refine rl.done ?_
        refine RW.cond_t rfl ?_
        refine RW.reg ?_
        refine rl.run 3 rfl ?_
        obtain ⟨v15, e15, h43⟩ := bindS h42
        refine rl.call rfl rfl rfl (CallW.val (r' := .tup [.agg (enc_TItem false v15.1), .bool v15.2]) ok_impl_boxThere (law_impl_boxThere e15) (.cons (.lst ek_TItem) (.cons .int .nil)) (FlL.tup (.cons .refl (.cons .refl .nil))) ?_)
        refine rl.run 5 rfl ?_
        refine rl.done ?_
        cases h43
        exact ⟨_, rfl, (Gh.ren0 [0, 2] (.cells rfl rfl (.keep .int (.keep .int (.keep .int (.keep .int (.keep .int (.keep .int (.keep .str (.keep .str (.keep .str .nil))))))))) (.cells rfl rfl (.keep .int (.keep .int (.keep .int (.keep .int (.keep .int (.keep .int (.keep .str (.keep .str (.keep .str .nil))))))))) .nil)) rfl (.cons rfl (.ptr rfl) (.cons rfl (.ptr rfl) (.cons rfl (.dat .bool) .nil))))⟩
    · intro y4_ hC
      have h5 := elimR h5 hC
      refine RW.sreg ?_
      refine rl.run 2 rfl ?_
      cases hb : y4_.1
      · have h44 := iteBF h5 hb
        refine rl.run 5 rfl ?_
        refine rl.done ?_
        refine RW.ret ?_
        cases h44
        exact RRet.mk rfl .bool (by first | decide | simp)
      · have h45 := iteBT h5 hb
        refine rl.run 5 rfl ?_
        refine rl.done ?_
        refine RW.ret ?_
        cases h45
        exact RRet.mk rfl .bool (by first | decide | simp)
  · have h46 := iteBT h3 hb
    refine rl.done ?_
    refine RW.cond_t rfl ?_
    refine RW.sreg ?_
    refine rl.run 1 rfl ?_
    refine rl.done ?_
    refine RW.keep [4] (a' := [(4, .bool false)]) (H' := [some ⟨[.int .i64 v1.Seq, .int .i64 v1.Rec.Kind, .int .i64 v1.Rec.Valid, .int .i64 v1.Rec.Uid, .int .i64 v1.Rec.Next, .int .i64 v1.Rec.Flags, .str v1.Rec.User, .str v1.Rec.Name, .str v1.Rec.Text], 0⟩]) rfl rfl ?_
    refine RW.ret ?_
    cases h46
    exact RRet.mk rfl .bool (by first | decide | simp)
theorem law_impl_NeededAll {x0 : List TItem} {r : List Bool} (hF : F_impl_NeededAll x0 = some r) : PCalls Try.prog 20 [.lst false 9 (fl (enc_TItem false) x0) x0.length] (.lst true 1 (fl (encO true) r) r.length) := by
  refine PCalls.of_r k_impl_NeededAll rfl ?_
  unfold F_impl_NeededAll at hF
  refine RW.sreg ?_
  refine rl.run 1 rfl ?_
  refine rl.done ?_
  refine RW.sreg ?_
  refine rl.run 1 rfl ?_
  obtain ⟨v1, e1, h1⟩ := bindS hF
  refine rl.call rfl rfl rfl (CallW.val (r' := .bool v1) ok_impl_ItemsOk (law_impl_ItemsOk e1) (.cons (.lst ek_TItem) .nil) .refl ?_)
  cases hb : v1
  · have h2 := iteBF h1 hb
    refine rl.run 1 rfl ?_
    refine rl.done ?_
    refine RW.sreg ?_
    refine rl.run 2 rfl ?_
    refine rl.done ?_
    refine RW.seq ?_
    refine RW.sreg ?_
    refine rl.run 3 rfl ?_
    refine rl.done ?_
    refine RW.gh (Gh.nil_t 4 1 rfl) ?_
    obtain ⟨y5, ey5, h4⟩ := bindS h2
    refine RW.cutq (σ := (List Bool)) (fun y3 => [(4, .sl 0 0 y3.length)]) (fun y3 => [some ⟨fl (encO true) y3, 1⟩]) (fun y => y5 = y) (fun _ _ _ _ g h => RW.gh g h) ?_ ?_
    · refine RW.blk ?_
      refine RW.iter (σ := Int × (List Bool)) ey5 (fun s2 => [(0, .lst false 9 (fl (enc_TItem false) x0) x0.length), (3, .bool false), (4, .sl 0 0 s2.2.length), (10, .int .i64 (x0.length : Int)), (11, .int .i64 s2.1)]) (fun s2 => [some ⟨fl (encO true) s2.2, 1⟩]) (Gh.ren0 [0] (.same rfl (ekO.fref _ _) .nil) rfl (.cons rfl (.dat (ek_TItem.rlst)) (.cons rfl (.dat .bool) (.cons rfl (.slq rfl rfl) (.cons rfl (.dat .int) (.cons rfl (.dat .int) .nil)))))) (fun s2 B o hS3 hB3 hE3 => ?_)
      unfold S_impl_NeededAll_1 at hS3
      refine RW.sreg ?_
      refine rl.gen rfl rfl fun b hb => ?_
      cases b
      · have h5 := iteBF hS3 hb
        refine rl.done ?_
        refine RW.seq ?_
        refine RW.cond_f rfl ?_
        refine RW.exit ?_
        refine blkA_eq ?_
        cases h5
        exact ⟨_, (hE3 _ rfl).symm, (Gh.ren0 [0] (.same rfl (ekO.fref _ _) .nil) rfl (.cons rfl (.slq rfl rfl) .nil))⟩
      · have h6 := iteBT hS3 hb
        refine rl.done ?_
        refine RW.seq ?_
        refine RW.cond_t rfl ?_
        refine RW.skip ?_
        refine RW.seq ?_
        refine RW.blk ?_
        refine RW.sreg ?_
        refine rl.run 2 rfl ?_
        refine rl.done ?_
        refine RW.reg ?_
        refine rl.run 8 rfl ?_
        obtain ⟨v4, e4, h7⟩ := bindS h6
        refine rl.op (x_app rfl rfl (rapp_sl (l := s2.2) (m := [false]) (o := true) ekO rfl rfl (acont_slq (m := [false]) (o := true) fkO rfl rfl) rfl (fkO.fst _ _) e4)) ?_
        refine rl.run 1 rfl ?_
        refine rl.done ?_
        refine RW.reg ?_
        refine rl.run 2 rfl ?_
        refine rl.done ?_
        cases h7
        exact hB3 _ rfl _ _ (Gh.ren0 [2] (.same rfl (ekO.fref _ _) .nil) rfl (.cons rfl (.dat (ek_TItem.rlst)) (.cons rfl (.dat .bool) (.cons rfl (.slq rfl rfl) (.cons rfl (.dat .int) (.cons rfl (.dat .int) .nil))))))
    · intro y3 hC
      subst hC
      refine RW.sreg ?_
      refine rl.run 2 rfl ?_
      refine rl.done ?_
      refine RW.ret ?_
      cases h4
      exact RRet.mk rfl (OutR.ownq ekO rfl rfl) (by first | decide | simp)
  · have h8 := iteBT h1 hb
    refine rl.run 1 rfl ?_
    refine rl.done ?_
    refine RW.sreg ?_
    refine rl.run 2 rfl ?_
    refine rl.done ?_
    refine RW.seq ?_
    refine RW.sreg ?_
    refine rl.run 3 rfl ?_
    refine rl.done ?_
    refine RW.gh (Gh.nil_t 4 1 rfl) ?_
    obtain ⟨y10, ey10, h10⟩ := bindS h8
    refine RW.cutq (σ := (List Bool)) (fun y7 => [(4, .sl 0 0 y7.length)]) (fun y7 => [some ⟨fl (encO true) y7, 1⟩]) (fun y => y10 = y) (fun _ _ _ _ g h => RW.gh g h) ?_ ?_
    · refine RW.blk ?_
      refine RW.iter (σ := Int × (List Bool)) ey10 (fun s6 => [(0, .lst false 9 (fl (enc_TItem false) x0) x0.length), (3, .bool true), (4, .sl 0 0 s6.2.length), (10, .int .i64 (x0.length : Int)), (11, .int .i64 s6.1)]) (fun s6 => [some ⟨fl (encO true) s6.2, 1⟩]) (Gh.ren0 [0] (.same rfl (ekO.fref _ _) .nil) rfl (.cons rfl (.dat (ek_TItem.rlst)) (.cons rfl (.dat .bool) (.cons rfl (.slq rfl rfl) (.cons rfl (.dat .int) (.cons rfl (.dat .int) .nil)))))) (fun s6 B o hS9 hB9 hE9 => ?_)
      unfold S_impl_NeededAll_2 at hS9
      refine RW.sreg ?_
      refine rl.gen rfl rfl fun b hb => ?_
      cases b
      · have h11 := iteBF hS9 hb
        refine rl.done ?_
        refine RW.seq ?_
        refine RW.cond_f rfl ?_
        refine RW.exit ?_
        refine blkA_eq ?_
        cases h11
        exact ⟨_, (hE9 _ rfl).symm, (Gh.ren0 [0] (.same rfl (ekO.fref _ _) .nil) rfl (.cons rfl (.slq rfl rfl) .nil))⟩
      · have h12 := iteBT hS9 hb
        refine rl.done ?_
        refine RW.seq ?_
        refine RW.cond_t rfl ?_
        refine RW.skip ?_
        refine RW.seq ?_
        refine RW.blk ?_
        refine RW.sreg ?_
        refine rl.run 2 rfl ?_
        refine rl.done ?_
        refine RW.reg ?_
        refine rl.run 5 rfl ?_
        obtain ⟨v8, e8, h13⟩ := bindS h12
        refine rl.call rfl rfl rfl (CallW.val (r' := .bool v8) ok_impl_needed (law_impl_needed e8) (.cons (.lst ek_TItem) (.cons .int .nil)) .refl ?_)
        refine rl.run 2 rfl ?_
        obtain ⟨v9, e9, h14⟩ := bindS h13
        refine rl.op (x_app rfl rfl (rapp_sl (l := s6.2) (m := [v8]) (o := true) ekO rfl rfl (acont_slq (m := [v8]) (o := true) fkO rfl rfl) rfl (fkO.fst _ _) e9)) ?_
        refine rl.run 1 rfl ?_
        refine rl.done ?_
        refine RW.reg ?_
        refine rl.run 2 rfl ?_
        refine rl.done ?_
        cases h14
        exact hB9 _ rfl _ _ (Gh.ren0 [2] (.same rfl (ekO.fref _ _) .nil) rfl (.cons rfl (.dat (ek_TItem.rlst)) (.cons rfl (.dat .bool) (.cons rfl (.slq rfl rfl) (.cons rfl (.dat .int) (.cons rfl (.dat .int) .nil))))))
    · intro y7 hC
      subst hC
      refine RW.sreg ?_
      refine rl.run 2 rfl ?_
      refine rl.done ?_
      refine RW.ret ?_
      cases h10
      exact RRet.mk rfl (OutR.ownq ekO rfl rfl) (by first | decide | simp)
theorem law_laws_eqBoolS {x0 : List Bool} {x1 : List Bool} {r : Bool} (hF : F_laws_eqBoolS x0 x1 = some r) : PCalls Try.prog 21 [.lst false 1 (fl (encO false) x0) x0.length, .lst false 1 (fl (encO false) x1) x1.length] (.bool r) := by
  refine PCalls.of_r k_laws_eqBoolS rfl ?_
  unfold F_laws_eqBoolS at hF
  refine RW.sreg ?_
  refine rl.run 1 rfl ?_
  refine rl.done ?_
  refine RW.seq ?_
  refine RW.sreg ?_
  refine rl.run 4 rfl ?_
  refine rl.gen rfl rfl fun b hb => ?_
  cases b
  · have h1 := iteBF hF hb
    refine rl.done ?_
    refine RW.cond_f rfl ?_
    refine RW.skip ?_
    refine RW.seq ?_
    refine RW.sreg ?_
    refine rl.run 1 rfl ?_
    refine rl.done ?_
    obtain ⟨y5, ey5, h3⟩ := bindS h1
    refine RW.cutq (σ := Unit) (fun y2 => []) (fun y2 => []) (fun y => y5 = .inr y) (fun _ _ _ _ g h => RW.gh g h) ?_ ?_
    · refine RW.blk ?_
      refine RW.iter (σ := Int) ey5 (fun s1 => [(0, .lst false 1 (fl (encO false) x0) x0.length), (1, .lst false 1 (fl (encO false) x1) x1.length), (5, .int .i64 s1)]) (fun s1 => []) (Gh.ren0 [] .nil rfl (.cons rfl (.dat (ekO.rlst)) (.cons rfl (.dat (ekO.rlst)) (.cons rfl (.dat .int) .nil)))) (fun s1 B o hS2 hB2 hE2 => ?_)
      unfold S_laws_eqBoolS_1 at hS2
      refine RW.seq ?_
      refine RW.sreg ?_
      refine rl.run 3 rfl ?_
      refine rl.gen rfl rfl fun b hb => ?_
      cases b
      · have h4 := iteBF hS2 hb
        refine rl.done ?_
        refine RW.cond_f rfl ?_
        refine RW.exit ?_
        refine blkA_eq ?_
        cases h4
        exact ⟨_, (hE2 _ rfl).symm, (Gh.ren0 [] .nil rfl .nil)⟩
      · have h5 := iteBT hS2 hb
        refine rl.done ?_
        refine RW.cond_t rfl ?_
        refine RW.skip ?_
        refine RW.seq ?_
        refine RW.blk ?_
        refine RW.sdrw ?_
        refine rdraw.op rfl rfl ?_
        refine rdraw.op rfl rfl ?_
        obtain ⟨v3, e3, h6⟩ := bindS h5
        refine rdraw.op rfl (x_ia_lst (enc := encO) (o := false) rfl rfl rfl e3) ?_
        refine rdraw.op rfl (x_ld_el (off' := 0) ekO rfl e3 rfl rfl rfl) ?_
        refine rdraw.op rfl rfl ?_
        refine rdraw.op rfl rfl ?_
        obtain ⟨v4, e4, h7⟩ := bindS h6
        refine rdraw.op rfl (x_ia_lst (enc := encO) (o := false) rfl rfl rfl e4) ?_
        refine rdraw.op rfl (x_ld_el (off' := 0) ekO rfl e4 rfl rfl rfl) ?_
        refine rdraw.gen rfl rfl fun b hb => ?_
        cases b
        · have h8 := iteBF h7 hb
          refine rdraw.done ?_
          refine RW.keep [0, 1, 5, 25] (a' := [(0, .lst false 1 (fl (encO false) x0) x0.length), (1, .lst false 1 (fl (encO false) x1) x1.length), (5, .int .i64 s1), (25, .bool false)]) (H' := []) rfl rfl ?_
          refine RW.cond_f rfl ?_
          refine RW.skip ?_
          refine RW.reg ?_
          refine rl.run 3 rfl ?_
          refine rl.done ?_
          cases h8
          exact hB2 _ rfl _ _ (Gh.ren0 [] .nil rfl (.cons rfl (.dat (ekO.rlst)) (.cons rfl (.dat (ekO.rlst)) (.cons rfl (.dat .int) .nil))))
        · have h9 := iteBT h7 hb
          refine rdraw.done ?_
          refine RW.keep [0, 1, 5, 25] (a' := [(0, .lst false 1 (fl (encO false) x0) x0.length), (1, .lst false 1 (fl (encO false) x1) x1.length), (5, .int .i64 s1), (25, .bool true)]) (H' := []) rfl rfl ?_
          refine RW.cond_t rfl ?_
          refine RW.sreg ?_
          refine rl.run 1 rfl ?_
          refine rl.done ?_
          refine RW.ret ?_
          cases h9
          have h10 := elimL h3 (hE2 _ rfl)
          cases h10
          exact RRet.mk rfl .bool (by first | decide | simp)
    · intro y2 hC
      have h3 := elimR h3 hC
      refine RW.sreg ?_
      refine rl.run 1 rfl ?_
      refine rl.done ?_
      refine RW.ret ?_
      cases h3
      exact RRet.mk rfl .bool (by first | decide | simp)
  · have h11 := iteBT hF hb
    refine rl.done ?_
    refine RW.cond_t rfl ?_
    refine RW.sreg ?_
    refine rl.run 1 rfl ?_
    refine rl.done ?_
    refine RW.ret ?_
    cases h11
    exact RRet.mk rfl .bool (by first | decide | simp)
theorem law_laws_eqRec {x0 : TRec} {x1 : TRec} {r : Bool} (hF : F_laws_eqRec x0 x1 = some r) : PCalls Try.prog 143 [.agg (enc_TRec false x0), .agg (enc_TRec false x1)] (.bool r) := by
  refine PCalls.of_r k_laws_eqRec rfl ?_
  unfold F_laws_eqRec at hF
  refine RW.sreg ?_
  refine rl.run 3 rfl ?_
  refine rl.done ?_
  refine RW.seq ?_
  refine RW.sreg ?_
  refine rl.run 4 rfl ?_
  refine rl.gen rfl rfl fun b hb => ?_
  cases b
  · have h1 := iteBF hF hb
    refine rl.done ?_
    refine RW.cond_f rfl ?_
    refine RW.skip ?_
    refine RW.seq ?_
    refine RW.sreg ?_
    refine rl.run 4 rfl ?_
    refine rl.gen rfl rfl fun b hb => ?_
    cases b
    · have h2 := iteBF h1 hb
      refine rl.done ?_
      refine RW.keep [2, 3, 14] (a' := [(2, .ptr 0 0), (3, .ptr 1 0), (14, .bool false)]) (H' := [some ⟨[.int .i64 x0.Kind, .int .i64 x0.Valid, .int .i64 x0.Uid, .int .i64 x0.Next, .int .i64 x0.Flags, .str x0.User, .str x0.Name, .str x0.Text], 0⟩, some ⟨[.int .i64 x1.Kind, .int .i64 x1.Valid, .int .i64 x1.Uid, .int .i64 x1.Next, .int .i64 x1.Flags, .str x1.User, .str x1.Name, .str x1.Text], 0⟩]) rfl rfl ?_
      refine RW.cond_f rfl ?_
      refine RW.skip ?_
      refine RW.seq ?_
      refine RW.sreg ?_
      refine rl.run 4 rfl ?_
      refine rl.gen rfl rfl fun b hb => ?_
      cases b
      · have h3 := iteBF h2 hb
        refine rl.done ?_
        refine RW.cond_f rfl ?_
        refine RW.skip ?_
        refine RW.seq ?_
        refine RW.sreg ?_
        refine rl.run 4 rfl ?_
        refine rl.gen rfl rfl fun b hb => ?_
        cases b
        · have h4 := iteBF h3 hb
          refine rl.done ?_
          refine RW.cond_f rfl ?_
          refine RW.skip ?_
          refine RW.seq ?_
          refine RW.sreg ?_
          refine rl.run 4 rfl ?_
          refine rl.gen rfl rfl fun b hb => ?_
          cases b
          · have h5 := iteBF h4 hb
            refine rl.done ?_
            refine RW.keep [2, 3, 29] (a' := [(2, .ptr 0 0), (3, .ptr 1 0), (29, .bool false)]) (H' := [some ⟨[.int .i64 x0.Kind, .int .i64 x0.Valid, .int .i64 x0.Uid, .int .i64 x0.Next, .int .i64 x0.Flags, .str x0.User, .str x0.Name, .str x0.Text], 0⟩, some ⟨[.int .i64 x1.Kind, .int .i64 x1.Valid, .int .i64 x1.Uid, .int .i64 x1.Next, .int .i64 x1.Flags, .str x1.User, .str x1.Name, .str x1.Text], 0⟩]) rfl rfl ?_
            refine RW.cond_f rfl ?_
            refine RW.skip ?_
            refine RW.seq ?_
            refine RW.sreg ?_
            refine rl.run 4 rfl ?_
            refine rl.gen rfl rfl fun b hb => ?_
            cases b
            · have h6 := iteBF h5 hb
              refine rl.done ?_
              refine RW.cond_f rfl ?_
              refine RW.skip ?_
              refine RW.seq ?_
              refine RW.sreg ?_
              refine rl.run 4 rfl ?_
              refine rl.gen rfl rfl fun b hb => ?_
              cases b
              · have h7 := iteBF h6 hb
                refine rl.done ?_
                refine RW.cond_f rfl ?_
                refine RW.skip ?_
                refine RW.seq ?_
                refine RW.sreg ?_
                refine rl.run 4 rfl ?_
                refine rl.gen rfl rfl fun b hb => ?_
                cases b
                · have h8 := iteBF h7 hb
                  refine rl.done ?_
                  refine RW.keep [44] (a' := [(44, .bool false)]) (H' := [some ⟨[.int .i64 x0.Kind, .int .i64 x0.Valid, .int .i64 x0.Uid, .int .i64 x0.Next, .int .i64 x0.Flags, .str x0.User, .str x0.Name, .str x0.Text], 0⟩, some ⟨[.int .i64 x1.Kind, .int .i64 x1.Valid, .int .i64 x1.Uid, .int .i64 x1.Next, .int .i64 x1.Flags, .str x1.User, .str x1.Name, .str x1.Text], 0⟩]) rfl rfl ?_
                  refine RW.cond_f rfl ?_
                  refine RW.skip ?_
                  refine RW.sreg ?_
                  refine rl.run 1 rfl ?_
                  refine rl.done ?_
                  refine RW.ret ?_
                  cases h8
                  exact RRet.mk rfl .bool (by first | decide | simp)
                · have h9 := iteBT h7 hb
                  refine rl.done ?_
                  refine RW.keep [44] (a' := [(44, .bool true)]) (H' := [some ⟨[.int .i64 x0.Kind, .int .i64 x0.Valid, .int .i64 x0.Uid, .int .i64 x0.Next, .int .i64 x0.Flags, .str x0.User, .str x0.Name, .str x0.Text], 0⟩, some ⟨[.int .i64 x1.Kind, .int .i64 x1.Valid, .int .i64 x1.Uid, .int .i64 x1.Next, .int .i64 x1.Flags, .str x1.User, .str x1.Name, .str x1.Text], 0⟩]) rfl rfl ?_
                  refine RW.cond_t rfl ?_
                  refine RW.sreg ?_
                  refine rl.run 1 rfl ?_
                  refine rl.done ?_
                  refine RW.ret ?_
                  cases h9
                  exact RRet.mk rfl .bool (by first | decide | simp)
              · have h10 := iteBT h6 hb
                refine rl.done ?_
                refine RW.cond_t rfl ?_
                refine RW.sreg ?_
                refine rl.run 1 rfl ?_
                refine rl.done ?_
                refine RW.keep [4] (a' := [(4, .bool false)]) (H' := [some ⟨[.int .i64 x0.Kind, .int .i64 x0.Valid, .int .i64 x0.Uid, .int .i64 x0.Next, .int .i64 x0.Flags, .str x0.User, .str x0.Name, .str x0.Text], 0⟩, some ⟨[.int .i64 x1.Kind, .int .i64 x1.Valid, .int .i64 x1.Uid, .int .i64 x1.Next, .int .i64 x1.Flags, .str x1.User, .str x1.Name, .str x1.Text], 0⟩]) rfl rfl ?_
                refine RW.ret ?_
                cases h10
                exact RRet.mk rfl .bool (by first | decide | simp)
            · have h11 := iteBT h5 hb
              refine rl.done ?_
              refine RW.cond_t rfl ?_
              refine RW.sreg ?_
              refine rl.run 1 rfl ?_
              refine rl.done ?_
              refine RW.ret ?_
              cases h11
              exact RRet.mk rfl .bool (by first | decide | simp)
          · have h12 := iteBT h4 hb
            refine rl.done ?_
            refine RW.keep [2, 3, 29] (a' := [(2, .ptr 0 0), (3, .ptr 1 0), (29, .bool true)]) (H' := [some ⟨[.int .i64 x0.Kind, .int .i64 x0.Valid, .int .i64 x0.Uid, .int .i64 x0.Next, .int .i64 x0.Flags, .str x0.User, .str x0.Name, .str x0.Text], 0⟩, some ⟨[.int .i64 x1.Kind, .int .i64 x1.Valid, .int .i64 x1.Uid, .int .i64 x1.Next, .int .i64 x1.Flags, .str x1.User, .str x1.Name, .str x1.Text], 0⟩]) rfl rfl ?_
            refine RW.cond_t rfl ?_
            refine RW.sreg ?_
            refine rl.run 1 rfl ?_
            refine rl.done ?_
            refine RW.ret ?_
            cases h12
            exact RRet.mk rfl .bool (by first | decide | simp)
        · have h13 := iteBT h3 hb
          refine rl.done ?_
          refine RW.cond_t rfl ?_
          refine RW.sreg ?_
          refine rl.run 1 rfl ?_
          refine rl.done ?_
          refine RW.keep [4] (a' := [(4, .bool false)]) (H' := [some ⟨[.int .i64 x0.Kind, .int .i64 x0.Valid, .int .i64 x0.Uid, .int .i64 x0.Next, .int .i64 x0.Flags, .str x0.User, .str x0.Name, .str x0.Text], 0⟩, some ⟨[.int .i64 x1.Kind, .int .i64 x1.Valid, .int .i64 x1.Uid, .int .i64 x1.Next, .int .i64 x1.Flags, .str x1.User, .str x1.Name, .str x1.Text], 0⟩]) rfl rfl ?_
          refine RW.ret ?_
          cases h13
          exact RRet.mk rfl .bool (by first | decide | simp)
      · have h14 := iteBT h2 hb
        refine rl.done ?_
        refine RW.cond_t rfl ?_
        refine RW.sreg ?_
        refine rl.run 1 rfl ?_
        refine rl.done ?_
        refine RW.ret ?_
        cases h14
        exact RRet.mk rfl .bool (by first | decide | simp)
    · have h15 := iteBT h1 hb
      refine rl.done ?_
      refine RW.keep [2, 3, 14] (a' := [(2, .ptr 0 0), (3, .ptr 1 0), (14, .bool true)]) (H' := [some ⟨[.int .i64 x0.Kind, .int .i64 x0.Valid, .int .i64 x0.Uid, .int .i64 x0.Next, .int .i64 x0.Flags, .str x0.User, .str x0.Name, .str x0.Text], 0⟩, some ⟨[.int .i64 x1.Kind, .int .i64 x1.Valid, .int .i64 x1.Uid, .int .i64 x1.Next, .int .i64 x1.Flags, .str x1.User, .str x1.Name, .str x1.Text], 0⟩]) rfl rfl ?_
      refine RW.cond_t rfl ?_
      refine RW.sreg ?_
      refine rl.run 1 rfl ?_
      refine rl.done ?_
      refine RW.ret ?_
      cases h15
      exact RRet.mk rfl .bool (by first | decide | simp)
  · have h16 := iteBT hF hb
    refine rl.done ?_
    refine RW.cond_t rfl ?_
    refine RW.sreg ?_
    refine rl.run 1 rfl ?_
    refine rl.done ?_
    refine RW.ret ?_
    cases h16
    exact RRet.mk rfl .bool (by first | decide | simp)
theorem law_laws_eqItem {x0 : TItem} {x1 : TItem} {r : Bool} (hF : F_laws_eqItem x0 x1 = some r) : PCalls Try.prog 73 [.agg (enc_TItem false x0), .agg (enc_TItem false x1)] (.bool r) := by
  refine PCalls.of_r k_laws_eqItem rfl ?_
  unfold F_laws_eqItem at hF
  refine RW.sreg ?_
  refine rl.run 3 rfl ?_
  refine rl.done ?_
  refine RW.seq ?_
  refine RW.sreg ?_
  refine rl.run 4 rfl ?_
  refine rl.gen rfl rfl fun b hb => ?_
  cases b
  · have h1 := iteBF hF hb
    refine rl.done ?_
    refine RW.cond_f rfl ?_
    refine RW.skip ?_
    refine RW.seq ?_
    refine RW.sreg ?_
    refine rl.run 4 rfl ?_
    obtain ⟨v1, e1, h2⟩ := bindS h1
    refine rl.call rfl rfl rfl (CallW.val (r' := .bool v1) ok_laws_eqRec (law_laws_eqRec e1) (.cons (DFL.agg (.cons .int (.cons .int (.cons .int (.cons .int (.cons .int (.cons .str (.cons .str (.cons .str .nil))))))))) (.cons (DFL.agg (.cons .int (.cons .int (.cons .int (.cons .int (.cons .int (.cons .str (.cons .str (.cons .str .nil))))))))) .nil)) .refl ?_)
    cases hb : v1
    · have h3 := iteBF h2 hb
      refine rl.run 1 rfl ?_
      refine rl.done ?_
      refine RW.keep [15] (a' := [(15, .bool true)]) (H' := [some ⟨[.int .i64 x0.Seq, .int .i64 x0.Rec.Kind, .int .i64 x0.Rec.Valid, .int .i64 x0.Rec.Uid, .int .i64 x0.Rec.Next, .int .i64 x0.Rec.Flags, .str x0.Rec.User, .str x0.Rec.Name, .str x0.Rec.Text], 0⟩, some ⟨[.int .i64 x1.Seq, .int .i64 x1.Rec.Kind, .int .i64 x1.Rec.Valid, .int .i64 x1.Rec.Uid, .int .i64 x1.Rec.Next, .int .i64 x1.Rec.Flags, .str x1.Rec.User, .str x1.Rec.Name, .str x1.Rec.Text], 0⟩]) rfl rfl ?_
      refine RW.cond_t rfl ?_
      refine RW.sreg ?_
      refine rl.run 1 rfl ?_
      refine rl.done ?_
      refine RW.ret ?_
      cases h3
      exact RRet.mk rfl .bool (by first | decide | simp)
    · have h4 := iteBT h2 hb
      refine rl.run 1 rfl ?_
      refine rl.done ?_
      refine RW.keep [15] (a' := [(15, .bool false)]) (H' := [some ⟨[.int .i64 x0.Seq, .int .i64 x0.Rec.Kind, .int .i64 x0.Rec.Valid, .int .i64 x0.Rec.Uid, .int .i64 x0.Rec.Next, .int .i64 x0.Rec.Flags, .str x0.Rec.User, .str x0.Rec.Name, .str x0.Rec.Text], 0⟩, some ⟨[.int .i64 x1.Seq, .int .i64 x1.Rec.Kind, .int .i64 x1.Rec.Valid, .int .i64 x1.Rec.Uid, .int .i64 x1.Rec.Next, .int .i64 x1.Rec.Flags, .str x1.Rec.User, .str x1.Rec.Name, .str x1.Rec.Text], 0⟩]) rfl rfl ?_
      refine RW.cond_f rfl ?_
      refine RW.skip ?_
      refine RW.sreg ?_
      refine rl.run 1 rfl ?_
      refine rl.done ?_
      refine RW.ret ?_
      cases h4
      exact RRet.mk rfl .bool (by first | decide | simp)
  · have h5 := iteBT hF hb
    refine rl.done ?_
    refine RW.cond_t rfl ?_
    refine RW.sreg ?_
    refine rl.run 1 rfl ?_
    refine rl.done ?_
    refine RW.ret ?_
    cases h5
    exact RRet.mk rfl .bool (by first | decide | simp)
theorem law_laws_eqItemS {x0 : List TItem} {x1 : List TItem} {r : Bool} (hF : F_laws_eqItemS x0 x1 = some r) : PCalls Try.prog 22 [.lst false 9 (fl (enc_TItem false) x0) x0.length, .lst false 9 (fl (enc_TItem false) x1) x1.length] (.bool r) := by
  refine PCalls.of_r k_laws_eqItemS rfl ?_
  unfold F_laws_eqItemS at hF
  refine RW.sreg ?_
  refine rl.run 1 rfl ?_
  refine rl.done ?_
  refine RW.seq ?_
  refine RW.sreg ?_
  refine rl.run 4 rfl ?_
  refine rl.gen rfl rfl fun b hb => ?_
  cases b
  · have h1 := iteBF hF hb
    refine rl.done ?_
    refine RW.cond_f rfl ?_
    refine RW.skip ?_
    refine RW.seq ?_
    refine RW.sreg ?_
    refine rl.run 1 rfl ?_
    refine rl.done ?_
    obtain ⟨y6, ey6, h3⟩ := bindS h1
    refine RW.cutq (σ := Unit) (fun y2 => []) (fun y2 => []) (fun y => y6 = .inr y) (fun _ _ _ _ g h => RW.gh g h) ?_ ?_
    · refine RW.blk ?_
      refine RW.iter (σ := Int) ey6 (fun s1 => [(0, .lst false 9 (fl (enc_TItem false) x0) x0.length), (1, .lst false 9 (fl (enc_TItem false) x1) x1.length), (5, .int .i64 s1)]) (fun s1 => []) (Gh.ren0 [] .nil rfl (.cons rfl (.dat (ek_TItem.rlst)) (.cons rfl (.dat (ek_TItem.rlst)) (.cons rfl (.dat .int) .nil)))) (fun s1 B o hS2 hB2 hE2 => ?_)
      unfold S_laws_eqItemS_1 at hS2
      refine RW.seq ?_
      refine RW.sreg ?_
      refine rl.run 3 rfl ?_
      refine rl.gen rfl rfl fun b hb => ?_
      cases b
      · have h4 := iteBF hS2 hb
        refine rl.done ?_
        refine RW.cond_f rfl ?_
        refine RW.exit ?_
        refine blkA_eq ?_
        cases h4
        exact ⟨_, (hE2 _ rfl).symm, (Gh.ren0 [] .nil rfl .nil)⟩
      · have h5 := iteBT hS2 hb
        refine rl.done ?_
        refine RW.cond_t rfl ?_
        refine RW.skip ?_
        refine RW.seq ?_
        refine RW.blk ?_
        refine RW.sdrw ?_
        refine rdraw.op rfl rfl ?_
        refine rdraw.op rfl rfl ?_
        obtain ⟨v3, e3, h6⟩ := bindS h5
        refine rdraw.op rfl (x_ia_lst (enc := enc_TItem) (o := false) rfl rfl rfl e3) ?_
        refine rdraw.op rfl (x_ld_ela (off' := 0) (vs := (enc_TItem false v3)) ek_TItem rfl e3 rfl rfl rfl) ?_
        refine rdraw.op rfl rfl ?_
        refine rdraw.op rfl rfl ?_
        obtain ⟨v4, e4, h7⟩ := bindS h6
        refine rdraw.op rfl (x_ia_lst (enc := enc_TItem) (o := false) rfl rfl rfl e4) ?_
        refine rdraw.op rfl (x_ld_ela (off' := 0) (vs := (enc_TItem false v4)) ek_TItem rfl e4 rfl rfl rfl) ?_
        obtain ⟨v5, e5, h8⟩ := bindS h7
        refine rdraw.call rfl rfl rfl (CallW.val (r' := .bool v5) ok_laws_eqItem (law_laws_eqItem e5) (.cons (.dat (.agg (ek_TItem.dat false _))) (.cons (.dat (.agg (ek_TItem.dat false _))) .nil)) .refl ⟨rfl, ?_⟩)
        cases hb : v5
        · have h9 := iteBF h8 hb
          refine rdraw.op rfl rfl ?_
          refine rdraw.done ?_
          refine RW.keep [0, 1, 5, 26] (a' := [(0, .lst false 9 (fl (enc_TItem false) x0) x0.length), (1, .lst false 9 (fl (enc_TItem false) x1) x1.length), (5, .int .i64 s1), (26, .bool true)]) (H' := []) rfl rfl ?_
          refine RW.cond_t rfl ?_
          refine RW.sreg ?_
          refine rl.run 1 rfl ?_
          refine rl.done ?_
          refine RW.ret ?_
          cases h9
          have h10 := elimL h3 (hE2 _ rfl)
          cases h10
          exact RRet.mk rfl .bool (by first | decide | simp)
        · have h11 := iteBT h8 hb
          refine rdraw.op rfl rfl ?_
          refine rdraw.done ?_
          refine RW.keep [0, 1, 5, 26] (a' := [(0, .lst false 9 (fl (enc_TItem false) x0) x0.length), (1, .lst false 9 (fl (enc_TItem false) x1) x1.length), (5, .int .i64 s1), (26, .bool false)]) (H' := []) rfl rfl ?_
          refine RW.cond_f rfl ?_
          refine RW.skip ?_
          refine RW.reg ?_
          refine rl.run 3 rfl ?_
          refine rl.done ?_
          cases h11
          exact hB2 _ rfl _ _ (Gh.ren0 [] .nil rfl (.cons rfl (.dat (ek_TItem.rlst)) (.cons rfl (.dat (ek_TItem.rlst)) (.cons rfl (.dat .int) .nil))))
    · intro y2 hC
      have h3 := elimR h3 hC
      refine RW.sreg ?_
      refine rl.run 1 rfl ?_
      refine rl.done ?_
      refine RW.ret ?_
      cases h3
      exact RRet.mk rfl .bool (by first | decide | simp)
  · have h12 := iteBT hF hb
    refine rl.done ?_
    refine RW.cond_t rfl ?_
    refine RW.sreg ?_
    refine rl.run 1 rfl ?_
    refine rl.done ?_
    refine RW.ret ?_
    cases h12
    exact RRet.mk rfl .bool (by first | decide | simp)
theorem law_laws_markText {x0 : Int} {r : List UInt8} (hF : F_laws_markText x0 = some r) : PCalls Try.prog 74 [.int .i64 x0] (.str r) := by
  refine PCalls.of_r k_laws_markText rfl ?_
  unfold F_laws_markText at hF
  refine RW.sreg ?_
  refine rl.run 1 rfl ?_
  refine rl.done ?_
  refine RW.seq ?_
  refine RW.sreg ?_
  refine rl.run 1 rfl ?_
  refine rl.gen rfl rfl fun b hb => ?_
  cases b
  · have h1 := iteBF hF hb
    refine rl.done ?_
    refine RW.cond_f rfl ?_
    refine RW.skip ?_
    refine RW.sreg ?_
    refine rl.run 1 rfl ?_
    refine rl.done ?_
    refine RW.seq ?_
    obtain ⟨y4, ey4, h3⟩ := bindS h1
    refine RW.cutq (σ := (List UInt8)) (fun y2 => [(3, .str y2)]) (fun y2 => []) (fun y => y4 = y) (fun _ _ _ _ g h => RW.gh g h) ?_ ?_
    · refine RW.blk ?_
      refine RW.iter (σ := Int × (List UInt8)) ey4 (fun s1 => [(0, .int .i64 s1.1), (3, .str s1.2)]) (fun s1 => []) (Gh.ren0 [] .nil rfl (.cons rfl (.dat .int) (.cons rfl (.dat .str) .nil))) (fun s1 B o hS2 hB2 hE2 => ?_)
      unfold S_laws_markText_1 at hS2
      refine RW.seq ?_
      refine RW.sreg ?_
      refine rl.run 1 rfl ?_
      refine rl.gen rfl rfl fun b hb => ?_
      cases b
      · have h4 := iteBF hS2 hb
        refine rl.done ?_
        refine RW.cond_f rfl ?_
        refine RW.exit ?_
        refine blkA_eq ?_
        cases h4
        exact ⟨_, (hE2 _ rfl).symm, (Gh.ren0 [] .nil rfl (.cons rfl (.dat .str) .nil))⟩
      · have h5 := iteBT hS2 hb
        refine rl.done ?_
        refine RW.cond_t rfl ?_
        refine RW.skip ?_
        refine RW.blk ?_
        refine RW.sreg ?_
        refine rl.run 5 rfl ?_
        refine rl.op (x_cvb_sl (o := true) (l := [IntKind.u8.wrap (w64 (48 + (Int.tmod s1.1 10)))]) rfl rfl) ?_
        refine rl.run 1 rfl ?_
        obtain ⟨v3, e3, h6⟩ := bindS h5
        refine rl.op (x_cat rfl rfl e3) ?_
        refine rl.run 1 rfl ?_
        refine rl.done ?_
        refine RW.reg ?_
        refine rl.run 3 rfl ?_
        refine rl.done ?_
        cases h6
        exact hB2 _ rfl _ _ (Gh.ren0 [] .nil rfl (.cons rfl (.dat .int) (.cons rfl (.dat .str) .nil)))
    · intro y2 hC
      subst hC
      refine RW.sreg ?_
      refine rl.run 1 rfl ?_
      obtain ⟨v5, e5, h7⟩ := bindS h3
      refine rl.op (x_cat rfl rfl e5) ?_
      refine rl.run 1 rfl ?_
      refine rl.done ?_
      refine RW.ret ?_
      cases h7
      exact RRet.mk rfl .str (by first | decide | simp)
  · have h8 := iteBT hF hb
    refine rl.done ?_
    refine RW.cond_t rfl ?_
    refine RW.sreg ?_
    refine rl.run 1 rfl ?_
    refine rl.done ?_
    refine RW.ret ?_
    cases h8
    exact RRet.mk rfl .str (by first | decide | simp)
theorem law_laws_markItemS_w {x0 : List TItem} {x1 : Int} {r : Int × (List TItem)} (hF : F_laws_markItemS_w x0 x1 = some r) : ACalls Try.prog 0 23 [.sl 0 0 x0.length, .int .i64 x1] [some ⟨fl (enc_TItem true) x0, 9⟩] (.int .i64 r.1) [some ⟨fl (enc_TItem true) r.2, 9⟩] := by
  refine ACalls.of_s k_laws_markItemS rfl ?_
  unfold F_laws_markItemS_w at hF
  refine RW.sreg ?_
  refine rl.run 1 rfl ?_
  refine rl.done ?_
  refine RW.seq ?_
  refine RW.sreg ?_
  refine rl.run 1 rfl ?_
  refine rl.done ?_
  obtain ⟨y24, ey24, h2⟩ := bindS hF
  refine RW.cutq (σ := Int × (List TItem)) (fun y2 => [(1, .int .i64 y2.1)]) (fun y2 => [some ⟨fl (enc_TItem true) y2.2, 9⟩]) (fun y => y24 = y) (fun _ _ _ _ g h => RW.gh g h) ?_ ?_
  · refine RW.blk ?_
    refine RW.iter (σ := Int × Int × (List TItem)) ey24 (fun s1 => [(0, .sl 0 0 s1.2.2.length), (1, .int .i64 s1.1), (5, .int .i64 s1.2.1)]) (fun s1 => [some ⟨fl (enc_TItem true) s1.2.2, 9⟩]) (Gh.renN [0] (.same rfl (ek_TItem.fref _ _) .nil) rfl rfl rfl (.cons rfl (.slq rfl rfl) (.cons rfl (.dat .int) (.cons rfl (.dat .int) .nil)))) (fun s1 B o hS1 hB1 hE1 => ?_)
    unfold S_laws_markItemS_w_1 at hS1
    refine RW.seq ?_
    refine RW.sreg ?_
    refine rl.run 3 rfl ?_
    refine rl.gen rfl rfl fun b hb => ?_
    cases b
    · have h3 := iteBF hS1 hb
      refine rl.done ?_
      refine RW.cond_f rfl ?_
      refine RW.exit ?_
      refine blkA_eq ?_
      cases h3
      exact ⟨_, (hE1 _ rfl).symm, (Gh.renN [0] (.same rfl (ek_TItem.fref _ _) .nil) rfl rfl rfl (.cons rfl (.dat .int) .nil))⟩
    · have h4 := iteBT hS1 hb
      refine rl.done ?_
      refine RW.cond_t rfl ?_
      refine RW.skip ?_
      refine RW.seq ?_
      refine RW.blk ?_
      refine RW.sreg ?_
      refine rl.run 3 rfl ?_
      obtain ⟨v3, e3, h5⟩ := bindS h4
      refine rl.op (x_ia_sl rfl rfl rfl rfl e3) ?_
      refine rl.run 1 rfl ?_
      obtain ⟨v4, e4, h6⟩ := bindS h5
      refine rl.op0 (x_st_sl' (off' := 0) (o := true) (e' := ({ Seq := s1.1, Rec := v3.Rec } : TItem)) ek_TItem e3 rfl rfl rfl rfl rfl rfl rfl rfl rfl e4) ?_
      refine rl.done ?_
      refine RW.sreg ?_
      refine rl.run 3 rfl ?_
      refine rl.done ?_
      refine RW.keep [0, 1, 5] (a' := [(0, .sl 0 0 s1.2.2.length), (1, .int .i64 (w64 (s1.1 + 1))), (5, .int .i64 s1.2.1)]) (H' := [some ⟨fl (enc_TItem true) v4, 9⟩]) rfl rfl ?_
      refine RW.sreg ?_
      refine rl.run 3 rfl ?_
      obtain ⟨v5, e5, h7⟩ := bindS h6
      refine rl.op (x_ia_sl rfl rfl rfl (set'_len e4) e5) ?_
      refine rl.run 2 rfl ?_
      obtain ⟨v6, e6, h8⟩ := bindS h7
      refine rl.op0 (x_st_sl' (off' := 1) (o := true) (e' := ({ Seq := v5.Seq, Rec := ({ Kind := w64 (s1.1 + 1), Valid := v5.Rec.Valid, Uid := v5.Rec.Uid, Next := v5.Rec.Next, Flags := v5.Rec.Flags, User := v5.Rec.User, Name := v5.Rec.Name, Text := v5.Rec.Text } : TRec) } : TItem)) ek_TItem e5 rfl rfl rfl rfl rfl rfl rfl rfl rfl e6) ?_
      refine rl.done ?_
      refine RW.sreg ?_
      refine rl.run 3 rfl ?_
      refine rl.done ?_
      refine RW.sreg ?_
      refine rl.run 3 rfl ?_
      obtain ⟨v7, e7, h9⟩ := bindS h8
      refine rl.op (x_ia_sl rfl rfl rfl ((set'_len e4).trans (set'_len e6)) e7) ?_
      refine rl.run 2 rfl ?_
      obtain ⟨v8, e8, h10⟩ := bindS h9
      refine rl.op0 (x_st_sl' (off' := 2) (o := true) (e' := ({ Seq := v7.Seq, Rec := ({ Kind := v7.Rec.Kind, Valid := w64 ((w64 (s1.1 + 1)) + 1), Uid := v7.Rec.Uid, Next := v7.Rec.Next, Flags := v7.Rec.Flags, User := v7.Rec.User, Name := v7.Rec.Name, Text := v7.Rec.Text } : TRec) } : TItem)) ek_TItem e7 rfl rfl rfl rfl rfl rfl rfl rfl rfl e8) ?_
      refine rl.done ?_
      refine RW.keep [0, 1, 5] (a' := [(0, .sl 0 0 s1.2.2.length), (1, .int .i64 (w64 ((w64 (s1.1 + 1)) + 1))), (5, .int .i64 s1.2.1)]) (H' := [some ⟨fl (enc_TItem true) v8, 9⟩]) rfl rfl ?_
      refine RW.sreg ?_
      refine rl.run 3 rfl ?_
      refine rl.done ?_
      refine RW.sreg ?_
      refine rl.run 3 rfl ?_
      obtain ⟨v9, e9, h11⟩ := bindS h10
      refine rl.op (x_ia_sl rfl rfl rfl (((set'_len e4).trans (set'_len e6)).trans (set'_len e8)) e9) ?_
      refine rl.run 2 rfl ?_
      obtain ⟨v10, e10, h12⟩ := bindS h11
      refine rl.op0 (x_st_sl' (off' := 3) (o := true) (e' := ({ Seq := v9.Seq, Rec := ({ Kind := v9.Rec.Kind, Valid := v9.Rec.Valid, Uid := w64 ((w64 ((w64 (s1.1 + 1)) + 1)) + 1), Next := v9.Rec.Next, Flags := v9.Rec.Flags, User := v9.Rec.User, Name := v9.Rec.Name, Text := v9.Rec.Text } : TRec) } : TItem)) ek_TItem e9 rfl rfl rfl rfl rfl rfl rfl rfl rfl e10) ?_
      refine rl.done ?_
      refine RW.sreg ?_
      refine rl.run 3 rfl ?_
      refine rl.done ?_
      refine RW.sreg ?_
      refine rl.run 3 rfl ?_
      obtain ⟨v11, e11, h13⟩ := bindS h12
      refine rl.op (x_ia_sl rfl rfl rfl ((((set'_len e4).trans (set'_len e6)).trans (set'_len e8)).trans (set'_len e10)) e11) ?_
      refine rl.run 2 rfl ?_
      obtain ⟨v12, e12, h14⟩ := bindS h13
      refine rl.op0 (x_st_sl' (off' := 4) (o := true) (e' := ({ Seq := v11.Seq, Rec := ({ Kind := v11.Rec.Kind, Valid := v11.Rec.Valid, Uid := v11.Rec.Uid, Next := w64 ((w64 ((w64 ((w64 (s1.1 + 1)) + 1)) + 1)) + 1), Flags := v11.Rec.Flags, User := v11.Rec.User, Name := v11.Rec.Name, Text := v11.Rec.Text } : TRec) } : TItem)) ek_TItem e11 rfl rfl rfl rfl rfl rfl rfl rfl rfl e12) ?_
      refine rl.done ?_
      refine RW.keep [0, 1, 5] (a' := [(0, .sl 0 0 s1.2.2.length), (1, .int .i64 (w64 ((w64 ((w64 ((w64 (s1.1 + 1)) + 1)) + 1)) + 1))), (5, .int .i64 s1.2.1)]) (H' := [some ⟨fl (enc_TItem true) v12, 9⟩]) rfl rfl ?_
      refine RW.sreg ?_
      refine rl.run 3 rfl ?_
      refine rl.done ?_
      refine RW.sreg ?_
      refine rl.run 3 rfl ?_
      obtain ⟨v13, e13, h15⟩ := bindS h14
      refine rl.op (x_ia_sl rfl rfl rfl (((((set'_len e4).trans (set'_len e6)).trans (set'_len e8)).trans (set'_len e10)).trans (set'_len e12)) e13) ?_
      refine rl.run 2 rfl ?_
      obtain ⟨v14, e14, h16⟩ := bindS h15
      refine rl.op0 (x_st_sl' (off' := 5) (o := true) (e' := ({ Seq := v13.Seq, Rec := ({ Kind := v13.Rec.Kind, Valid := v13.Rec.Valid, Uid := v13.Rec.Uid, Next := v13.Rec.Next, Flags := w64 ((w64 ((w64 ((w64 ((w64 (s1.1 + 1)) + 1)) + 1)) + 1)) + 1), User := v13.Rec.User, Name := v13.Rec.Name, Text := v13.Rec.Text } : TRec) } : TItem)) ek_TItem e13 rfl rfl rfl rfl rfl rfl rfl rfl rfl e14) ?_
      refine rl.done ?_
      refine RW.sreg ?_
      refine rl.run 3 rfl ?_
      refine rl.done ?_
      refine RW.sreg ?_
      refine rl.run 3 rfl ?_
      obtain ⟨v15, e15, h17⟩ := bindS h16
      refine rl.call rfl rfl rfl (CallW.val (r' := .str v15) ok_laws_markText (law_laws_markText e15) (.cons .int .nil) .refl ?_)
      obtain ⟨v16, e16, h18⟩ := bindS h17
      refine rl.op (x_ia_sl rfl rfl rfl ((((((set'_len e4).trans (set'_len e6)).trans (set'_len e8)).trans (set'_len e10)).trans (set'_len e12)).trans (set'_len e14)) e16) ?_
      refine rl.run 2 rfl ?_
      obtain ⟨v17, e17, h19⟩ := bindS h18
      refine rl.op0 (x_st_sl' (off' := 6) (o := true) (e' := ({ Seq := v16.Seq, Rec := ({ Kind := v16.Rec.Kind, Valid := v16.Rec.Valid, Uid := v16.Rec.Uid, Next := v16.Rec.Next, Flags := v16.Rec.Flags, User := v15, Name := v16.Rec.Name, Text := v16.Rec.Text } : TRec) } : TItem)) ek_TItem e16 rfl rfl rfl rfl rfl rfl rfl rfl rfl e17) ?_
      refine rl.done ?_
      refine RW.keep [0, 1, 5] (a' := [(0, .sl 0 0 s1.2.2.length), (1, .int .i64 (w64 ((w64 ((w64 ((w64 ((w64 ((w64 (s1.1 + 1)) + 1)) + 1)) + 1)) + 1)) + 1))), (5, .int .i64 s1.2.1)]) (H' := [some ⟨fl (enc_TItem true) v17, 9⟩]) rfl rfl ?_
      refine RW.sreg ?_
      refine rl.run 3 rfl ?_
      refine rl.done ?_
      refine RW.sreg ?_
      refine rl.run 3 rfl ?_
      obtain ⟨v18, e18, h20⟩ := bindS h19
      refine rl.call rfl rfl rfl (CallW.val (r' := .str v18) ok_laws_markText (law_laws_markText e18) (.cons .int .nil) .refl ?_)
      obtain ⟨v19, e19, h21⟩ := bindS h20
      refine rl.op (x_ia_sl rfl rfl rfl (((((((set'_len e4).trans (set'_len e6)).trans (set'_len e8)).trans (set'_len e10)).trans (set'_len e12)).trans (set'_len e14)).trans (set'_len e17)) e19) ?_
      refine rl.run 2 rfl ?_
      obtain ⟨v20, e20, h22⟩ := bindS h21
      refine rl.op0 (x_st_sl' (off' := 7) (o := true) (e' := ({ Seq := v19.Seq, Rec := ({ Kind := v19.Rec.Kind, Valid := v19.Rec.Valid, Uid := v19.Rec.Uid, Next := v19.Rec.Next, Flags := v19.Rec.Flags, User := v19.Rec.User, Name := v18, Text := v19.Rec.Text } : TRec) } : TItem)) ek_TItem e19 rfl rfl rfl rfl rfl rfl rfl rfl rfl e20) ?_
      refine rl.done ?_
      refine RW.sreg ?_
      refine rl.run 3 rfl ?_
      refine rl.done ?_
      refine RW.keep [0, 1, 5] (a' := [(0, .sl 0 0 s1.2.2.length), (1, .int .i64 (w64 ((w64 ((w64 ((w64 ((w64 ((w64 ((w64 ((w64 (s1.1 + 1)) + 1)) + 1)) + 1)) + 1)) + 1)) + 1)) + 1))), (5, .int .i64 s1.2.1)]) (H' := [some ⟨fl (enc_TItem true) v20, 9⟩]) rfl rfl ?_
      refine RW.sreg ?_
      refine rl.run 3 rfl ?_
      obtain ⟨v21, e21, h23⟩ := bindS h22
      refine rl.call rfl rfl rfl (CallW.val (r' := .str v21) ok_laws_markText (law_laws_markText e21) (.cons .int .nil) .refl ?_)
      obtain ⟨v22, e22, h24⟩ := bindS h23
      refine rl.op (x_ia_sl rfl rfl rfl ((((((((set'_len e4).trans (set'_len e6)).trans (set'_len e8)).trans (set'_len e10)).trans (set'_len e12)).trans (set'_len e14)).trans (set'_len e17)).trans (set'_len e20)) e22) ?_
      refine rl.run 2 rfl ?_
      obtain ⟨v23, e23, h25⟩ := bindS h24
      refine rl.op0 (x_st_sl' (off' := 8) (o := true) (e' := ({ Seq := v22.Seq, Rec := ({ Kind := v22.Rec.Kind, Valid := v22.Rec.Valid, Uid := v22.Rec.Uid, Next := v22.Rec.Next, Flags := v22.Rec.Flags, User := v22.Rec.User, Name := v22.Rec.Name, Text := v21 } : TRec) } : TItem)) ek_TItem e22 rfl rfl rfl rfl rfl rfl rfl rfl rfl e23) ?_
      refine rl.done ?_
      refine RW.reg ?_
      refine rl.run 3 rfl ?_
      refine rl.done ?_
      refine RW.reg ?_
      refine rl.run 3 rfl ?_
      refine rl.done ?_
      cases h25
      exact hB1 _ rfl _ _ (Gh.renN [0] (.same rfl (ek_TItem.fref _ _) .nil) rfl rfl rfl (.cons rfl (.slq rfl (((((((((set'_len e4).trans (set'_len e6)).trans (set'_len e8)).trans (set'_len e10)).trans (set'_len e12)).trans (set'_len e14)).trans (set'_len e17)).trans (set'_len e20)).trans (set'_len e23))) (.cons rfl (.dat .int) (.cons rfl (.dat .int) .nil))))
  · intro y2 hC
    subst hC
    refine RW.sreg ?_
    refine rl.run 2 rfl ?_
    refine rl.done ?_
    refine RW.ret ?_
    cases h2
    exact RRetS.mk rfl .int (Gh.renN [0] (.same rfl (ek_TItem.fref _ _) .nil) rfl rfl rfl .nil)
theorem law_laws_markBoolS_w {x0 : List Bool} {x1 : Int} {r : Int × (List Bool)} (hF : F_laws_markBoolS_w x0 x1 = some r) : ACalls Try.prog 0 24 [.sl 0 0 x0.length, .int .i64 x1] [some ⟨fl (encO true) x0, 1⟩] (.int .i64 r.1) [some ⟨fl (encO true) r.2, 1⟩] := by
  refine ACalls.of_s k_laws_markBoolS rfl ?_
  unfold F_laws_markBoolS_w at hF
  refine RW.sreg ?_
  refine rl.run 1 rfl ?_
  refine rl.done ?_
  refine RW.seq ?_
  refine RW.sreg ?_
  refine rl.run 1 rfl ?_
  refine rl.done ?_
  obtain ⟨y5, ey5, h2⟩ := bindS hF
  refine RW.cutq (σ := Int × (List Bool)) (fun y2 => [(1, .int .i64 y2.1)]) (fun y2 => [some ⟨fl (encO true) y2.2, 1⟩]) (fun y => y5 = y) (fun _ _ _ _ g h => RW.gh g h) ?_ ?_
  · refine RW.blk ?_
    refine RW.iter (σ := Int × Int × (List Bool)) ey5 (fun s1 => [(0, .sl 0 0 s1.2.2.length), (1, .int .i64 s1.1), (5, .int .i64 s1.2.1)]) (fun s1 => [some ⟨fl (encO true) s1.2.2, 1⟩]) (Gh.renN [0] (.same rfl (ekO.fref _ _) .nil) rfl rfl rfl (.cons rfl (.slq rfl rfl) (.cons rfl (.dat .int) (.cons rfl (.dat .int) .nil)))) (fun s1 B o hS1 hB1 hE1 => ?_)
    unfold S_laws_markBoolS_w_1 at hS1
    refine RW.seq ?_
    refine RW.sreg ?_
    refine rl.run 3 rfl ?_
    refine rl.gen rfl rfl fun b hb => ?_
    cases b
    · have h3 := iteBF hS1 hb
      refine rl.done ?_
      refine RW.cond_f rfl ?_
      refine RW.exit ?_
      refine blkA_eq ?_
      cases h3
      exact ⟨_, (hE1 _ rfl).symm, (Gh.renN [0] (.same rfl (ekO.fref _ _) .nil) rfl rfl rfl (.cons rfl (.dat .int) .nil))⟩
    · have h4 := iteBT hS1 hb
      refine rl.done ?_
      refine RW.cond_t rfl ?_
      refine RW.skip ?_
      refine RW.seq ?_
      refine RW.blk ?_
      refine RW.sreg ?_
      refine rl.run 5 rfl ?_
      obtain ⟨v3, e3, h5⟩ := bindS h4
      refine rl.op (x_ia_sl rfl rfl rfl rfl e3) ?_
      obtain ⟨v4, e4, h6⟩ := bindS h5
      refine rl.op0 (x_st_sl' (off' := 0) (o := true) (e' := ((Int.tmod s1.1 3) == 0)) ekO e3 rfl rfl rfl rfl rfl rfl rfl rfl rfl e4) ?_
      refine rl.done ?_
      refine RW.reg ?_
      refine rl.run 3 rfl ?_
      refine rl.done ?_
      refine RW.reg ?_
      refine rl.run 3 rfl ?_
      refine rl.done ?_
      cases h6
      exact hB1 _ rfl _ _ (Gh.renN [0] (.same rfl (ekO.fref _ _) .nil) rfl rfl rfl (.cons rfl (.slq rfl (set'_len e4)) (.cons rfl (.dat .int) (.cons rfl (.dat .int) .nil))))
  · intro y2 hC
    subst hC
    refine RW.sreg ?_
    refine rl.run 2 rfl ?_
    refine rl.done ?_
    refine RW.ret ?_
    cases h2
    exact RRetS.mk rfl .int (Gh.renN [0] (.same rfl (ekO.fref _ _) .nil) rfl rfl rfl .nil)
theorem law_laws_heldBoolS {x0 : List Bool} {x1 : Int} {r : Int} (hF : F_laws_heldBoolS x0 x1 = some r) : PCalls Try.prog 25 [.lst false 1 (fl (encO false) x0) x0.length, .int .i64 x1] (.int .i64 r) := by
  refine PCalls.of_r k_laws_heldBoolS rfl ?_
  unfold F_laws_heldBoolS at hF
  refine RW.sreg ?_
  refine rl.run 1 rfl ?_
  refine rl.done ?_
  refine RW.seq ?_
  refine RW.sreg ?_
  refine rl.run 1 rfl ?_
  refine rl.done ?_
  obtain ⟨y4, ey4, h2⟩ := bindS hF
  refine RW.cutq (σ := Int) (fun y2 => [(1, .int .i64 y2)]) (fun y2 => []) (fun y => y4 = .inr y) (fun _ _ _ _ g h => RW.gh g h) ?_ ?_
  · refine RW.blk ?_
    refine RW.iter (σ := Int × Int) ey4 (fun s1 => [(0, .lst false 1 (fl (encO false) x0) x0.length), (1, .int .i64 s1.1), (5, .int .i64 s1.2)]) (fun s1 => []) (Gh.ren0 [] .nil rfl (.cons rfl (.dat (ekO.rlst)) (.cons rfl (.dat .int) (.cons rfl (.dat .int) .nil)))) (fun s1 B o hS1 hB1 hE1 => ?_)
    unfold S_laws_heldBoolS_1 at hS1
    refine RW.seq ?_
    refine RW.sreg ?_
    refine rl.run 3 rfl ?_
    refine rl.gen rfl rfl fun b hb => ?_
    cases b
    · have h3 := iteBF hS1 hb
      refine rl.done ?_
      refine RW.cond_f rfl ?_
      refine RW.exit ?_
      refine blkA_eq ?_
      cases h3
      exact ⟨_, (hE1 _ rfl).symm, (Gh.ren0 [] .nil rfl (.cons rfl (.dat .int) .nil))⟩
    · have h4 := iteBT hS1 hb
      refine rl.done ?_
      refine RW.cond_t rfl ?_
      refine RW.skip ?_
      refine RW.seq ?_
      refine RW.blk ?_
      refine RW.seq ?_
      refine RW.sreg ?_
      refine rl.run 2 rfl ?_
      obtain ⟨v3, e3, h5⟩ := bindS h4
      refine rl.op (x_ia_lst (enc := encO) (o := false) rfl rfl rfl e3) ?_
      refine rl.op (x_ld_el (off' := 0) ekO rfl e3 rfl rfl rfl) ?_
      refine rl.run 3 rfl ?_
      refine rl.gen rfl rfl fun b hb => ?_
      cases b
      · have h6 := iteBF h5 hb
        refine rl.done ?_
        refine RW.keep [0, 1, 5, 19] (a' := [(0, .lst false 1 (fl (encO false) x0) x0.length), (1, .int .i64 s1.1), (5, .int .i64 s1.2), (19, .bool false)]) (H' := []) rfl rfl ?_
        refine RW.cond_f rfl ?_
        refine RW.skip ?_
        refine RW.reg ?_
        refine rl.run 3 rfl ?_
        refine rl.done ?_
        refine RW.reg ?_
        refine rl.run 3 rfl ?_
        refine rl.done ?_
        cases h6
        exact hB1 _ rfl _ _ (Gh.ren0 [] .nil rfl (.cons rfl (.dat (ekO.rlst)) (.cons rfl (.dat .int) (.cons rfl (.dat .int) .nil))))
      · have h7 := iteBT h5 hb
        refine rl.done ?_
        refine RW.keep [0, 1, 5, 19] (a' := [(0, .lst false 1 (fl (encO false) x0) x0.length), (1, .int .i64 s1.1), (5, .int .i64 s1.2), (19, .bool true)]) (H' := []) rfl rfl ?_
        refine RW.cond_t rfl ?_
        refine RW.sreg ?_
        refine rl.run 1 rfl ?_
        refine rl.done ?_
        refine RW.ret ?_
        cases h7
        have h8 := elimL h2 (hE1 _ rfl)
        cases h8
        exact RRet.mk rfl .int (by first | decide | simp)
  · intro y2 hC
    have h2 := elimR h2 hC
    refine RW.sreg ?_
    refine rl.run 2 rfl ?_
    refine rl.done ?_
    refine RW.ret ?_
    cases h2
    exact RRet.mk rfl .int (by first | decide | simp)
theorem law_laws_FnExactNeededAll {x0 : List TItem} {r : Bool} (hF : F_laws_FnExactNeededAll x0 = some r) : PCalls Try.prog 4 [.lst false 9 (fl (enc_TItem false) x0) x0.length] (.bool r) := by
  refine PCalls.of_r k_laws_FnExactNeededAll rfl ?_
  unfold F_laws_FnExactNeededAll at hF
  refine RW.sreg ?_
  refine rl.run 1 rfl ?_
  refine rl.done ?_
  refine RW.sreg ?_
  refine rl.run 1 rfl ?_
  refine rl.done ?_
  refine RW.sreg ?_
  refine rl.run 2 rfl ?_
  obtain ⟨v1, e1, h1⟩ := bindS hF
  refine rl.call rfl rfl rfl (CallW.val (r' := .int .i64 v1) ok_laws_szItemS (law_laws_szItemS e1) (.cons (.lst ek_TItem) (.cons .int .nil)) .refl ?_)
  refine rl.run 1 rfl ?_
  refine rl.done ?_
  refine RW.seq ?_
  refine RW.sreg ?_
  refine rl.run 1 rfl ?_
  refine rl.gen rfl rfl fun b hb => ?_
  cases b
  · have h2 := iteBF h1 hb
    refine rl.done ?_
    refine RW.cond_f rfl ?_
    refine RW.skip ?_
    refine RW.sreg ?_
    refine rl.run 1 rfl ?_
    obtain ⟨v2, e2, h3⟩ := bindS h2
    refine rl.call rfl rfl rfl (CallW.val (r' := .lst false 9 (fl (enc_TItem false) v2) v2.length) ok_laws_toItemS (law_laws_toItemS e2) (.cons (.lst ek_TItem) .nil) (ek_TItem.fflag _).lst ?_)
    obtain ⟨v3, e3, h4⟩ := bindS h3
    refine rl.call rfl rfl rfl (CallW.val (r' := .lst false 1 (fl (encO false) v3) v3.length) ok_spec_NeededAll (law_spec_NeededAll e3) (.cons (.lst ek_TItem) .nil) (ekO.fflag _).lst ?_)
    refine rl.run 1 rfl ?_
    refine rl.done ?_
    refine RW.sreg ?_
    refine rl.run 1 rfl ?_
    obtain ⟨v4, e4, h5⟩ := bindS h4
    refine rl.call rfl rfl rfl (CallW.own (r' := .sl 0 0 v4.length) (H' := [some ⟨fl (enc_TItem true) v4, 9⟩]) ok_laws_toItemS (law_laws_toItemS e4) (.cons (.lst ek_TItem) .nil) (.lst (ek_TItem.fown _)) rfl ?_)
    refine rl.run 1 rfl ?_
    refine rl.done ?_
    refine RW.keep [0, 4, 5] (a' := [(0, .lst false 9 (fl (enc_TItem false) x0) x0.length), (4, .lst false 1 (fl (encO false) v3) v3.length), (5, .sl 0 0 v4.length)]) (H' := [some ⟨fl (enc_TItem true) v4, 9⟩]) rfl rfl ?_
    refine RW.sreg ?_
    refine rl.run 1 rfl ?_
    obtain ⟨v5, e5, h6⟩ := bindS h5
    refine rl.call rfl rfl rfl (CallW.own (r' := .sl 1 0 v5.length) (H' := [some ⟨fl (enc_TItem true) v4, 9⟩, some ⟨fl (encO true) v5, 1⟩]) ok_impl_NeededAll (law_impl_NeededAll e5) (.cons (.slq ek_TItem rfl rfl) .nil) (.lst (ekO.fown _)) rfl ?_)
    refine rl.run 1 rfl ?_
    refine rl.done ?_
    refine RW.seq ?_
    refine RW.sreg ?_
    refine rl.run 2 rfl ?_
    obtain ⟨v6, e6, h7⟩ := bindS h6
    refine rl.call rfl rfl rfl (CallW.val (r' := .bool v6) ok_laws_eqBoolS (law_laws_eqBoolS e6) (.cons (.slq ekO rfl rfl) (.cons (.lst ekO) .nil)) .refl ?_)
    cases hb : v6
    · have h8 := iteBF h7 hb
      refine rl.run 1 rfl ?_
      refine rl.done ?_
      refine RW.cond_t rfl ?_
      refine RW.sreg ?_
      refine rl.run 1 rfl ?_
      refine rl.done ?_
      refine RW.ret ?_
      cases h8
      exact RRet.mk rfl .bool (by first | decide | simp)
    · have h9 := iteBT h7 hb
      refine rl.run 1 rfl ?_
      refine rl.done ?_
      refine RW.cond_f rfl ?_
      refine RW.skip ?_
      refine RW.seq ?_
      refine RW.sreg ?_
      refine rl.run 2 rfl ?_
      obtain ⟨v7, e7, h10⟩ := bindS h9
      refine rl.call rfl rfl rfl (CallW.val (r' := .lst false 9 (fl (enc_TItem false) v7) v7.length) ok_laws_toItemS (law_laws_toItemS e7) (.cons (.lst ek_TItem) .nil) (ek_TItem.fflag _).lst ?_)
      obtain ⟨v8, e8, h11⟩ := bindS h10
      refine rl.call rfl rfl rfl (CallW.val (r' := .bool v8) ok_laws_eqItemS (law_laws_eqItemS e8) (.cons (.slq ek_TItem rfl rfl) (.cons (.lst ek_TItem) .nil)) .refl ?_)
      cases hb : v8
      · have h12 := iteBF h11 hb
        refine rl.run 1 rfl ?_
        refine rl.done ?_
        refine RW.cond_t rfl ?_
        refine RW.sreg ?_
        refine rl.run 1 rfl ?_
        refine rl.done ?_
        refine RW.keep [2] (a' := [(2, .bool false)]) (H' := [some ⟨fl (enc_TItem true) v4, 9⟩, some ⟨fl (encO true) v5, 1⟩]) rfl rfl ?_
        refine RW.ret ?_
        cases h12
        exact RRet.mk rfl .bool (by first | decide | simp)
      · have h13 := iteBT h11 hb
        refine rl.run 1 rfl ?_
        refine rl.done ?_
        refine RW.cond_f rfl ?_
        refine RW.skip ?_
        refine RW.sreg ?_
        refine rl.run 1 rfl ?_
        refine rl.done ?_
        refine RW.keep [0, 4, 5, 6, 7] (a' := [(0, .lst false 9 (fl (enc_TItem false) x0) x0.length), (4, .lst false 1 (fl (encO false) v3) v3.length), (5, .sl 0 0 v4.length), (6, .sl 1 0 v5.length), (7, .int .i64 1)]) (H' := [some ⟨fl (enc_TItem true) v4, 9⟩, some ⟨fl (encO true) v5, 1⟩]) rfl rfl ?_
        refine RW.sreg ?_
        refine rl.run 2 rfl ?_
        obtain ⟨v9, e9, h14⟩ := bindS h13
        refine rl.call rfl rfl rfl (CallW.embW (r0 := .int .i64 v9.1) (H' := [some ⟨fl (enc_TItem true) v9.2, 9⟩, some ⟨fl (encO true) v5, 1⟩]) [⟨fl (enc_TItem true) v4, 9⟩] [⟨fl (enc_TItem true) v9.2, 9⟩] [0] ok_laws_markItemS (law_laws_markItemS_w (guardO_s e9)) (.cons rfl (ek_TItem.fref _ _) (ek_TItem.fown _) .nil) rfl (.cons (.slq rfl rfl) (.cons (.dat .int) .nil)) .int rfl rfl ?_)
        refine rl.run 1 rfl ?_
        refine rl.done ?_
        refine RW.seq ?_
        refine RW.seq ?_
        obtain ⟨y10, ey10, h15⟩ := bindS h14
        refine RW.cutq (σ := Bool) (fun y10 => [(0, .lst false 9 (fl (enc_TItem false) x0) x0.length), (4, .lst false 1 (fl (encO false) v3) v3.length), (6, .sl 0 0 v5.length), (42, .bool y10)]) (fun y10 => [some ⟨fl (encO true) v5, 1⟩]) (fun y => y10 = y) (fun _ _ _ _ g h => RW.gh g h) ?_ ?_
        · refine RW.reg ?_
          refine rl.run 1 rfl ?_
          refine rl.gen rfl rfl fun b hb => ?_
          cases b
          · have h16 := iteBF ey10 hb
            refine rl.run 3 rfl ?_
            obtain ⟨v11, e11, h17⟩ := bindS h16
            refine rl.call rfl rfl rfl (CallW.val (r' := .bool v11) ok_laws_eqBoolS (law_laws_eqBoolS e11) (.cons (.slq ekO rfl rfl) (.cons (.lst ekO) .nil)) .refl ?_)
            cases hb : v11
            · have h18 := iteBF h17 hb
              refine rl.run 2 rfl ?_
              refine rl.done ?_
              cases h18
              exact ⟨_, rfl, (Gh.ren0 [1] (.same rfl (ekO.fref _ _) .nil) rfl (.cons rfl (.dat (ek_TItem.rlst)) (.cons rfl (.dat (ekO.rlst)) (.cons rfl (.slq rfl rfl) (.cons rfl (.dat .bool) .nil)))))⟩
            · have h19 := iteBT h17 hb
              refine rl.run 2 rfl ?_
              refine rl.done ?_
              cases h19
              exact ⟨_, rfl, (Gh.ren0 [1] (.same rfl (ekO.fref _ _) .nil) rfl (.cons rfl (.dat (ek_TItem.rlst)) (.cons rfl (.dat (ekO.rlst)) (.cons rfl (.slq rfl rfl) (.cons rfl (.dat .bool) .nil)))))⟩
          · have h20 := iteBT ey10 hb
            refine rl.run 6 rfl ?_
            refine rl.done ?_
            cases h20
            exact ⟨_, rfl, (Gh.ren0 [1] (.same rfl (ekO.fref _ _) .nil) rfl (.cons rfl (.dat (ek_TItem.rlst)) (.cons rfl (.dat (ekO.rlst)) (.cons rfl (.slq rfl rfl) (.cons rfl (.dat .bool) .nil)))))⟩
        · intro y hC
          subst hC
          cases hb : y10
          · have h21 := iteBF h15 hb
            refine RW.cond_f rfl ?_
            refine RW.skip ?_
            refine RW.sreg ?_
            refine rl.run 1 rfl ?_
            refine rl.done ?_
            refine RW.sreg ?_
            refine rl.run 2 rfl ?_
            obtain ⟨v12, e12, h22⟩ := bindS h21
            refine rl.call rfl rfl rfl (CallW.embW (r0 := .int .i64 v12.1) (H' := [some ⟨fl (encO true) v12.2, 1⟩]) [⟨fl (encO true) v5, 1⟩] [⟨fl (encO true) v12.2, 1⟩] [0] ok_laws_markBoolS (law_laws_markBoolS_w (guardO_s e12)) (.cons rfl (ekO.fref _ _) (ekO.fown _) .nil) rfl (.cons (.slq rfl rfl) (.cons (.dat .int) .nil)) .int rfl rfl ?_)
            refine rl.run 1 rfl ?_
            refine rl.done ?_
            refine RW.sreg ?_
            refine rl.run 1 rfl ?_
            refine rl.done ?_
            refine RW.sreg ?_
            refine rl.run 2 rfl ?_
            obtain ⟨v13, e13, h23⟩ := bindS h22
            refine rl.call rfl rfl rfl (CallW.val (r' := .int .i64 v13) ok_laws_heldBoolS (law_laws_heldBoolS e13) (.cons (.slq ekO rfl (guardO_p (p := fun r : Int × (List Bool) => v5.length = r.2.length) e12)) (.cons .int .nil)) .refl ?_)
            refine rl.run 1 rfl ?_
            refine rl.done ?_
            refine RW.seq ?_
            refine RW.sreg ?_
            refine rl.run 1 rfl ?_
            refine rl.gen rfl rfl fun b hb => ?_
            cases b
            · have h24 := iteBF h23 hb
              refine rl.done ?_
              refine RW.cond_f rfl ?_
              refine RW.skip ?_
              refine RW.seq ?_
              refine RW.sreg ?_
              refine rl.run 2 rfl ?_
              refine rl.gen rfl rfl fun b hb => ?_
              cases b
              · have h25 := iteBF h24 hb
                refine rl.done ?_
                refine RW.keep [0, 4, 6, 8, 53] (a' := [(0, .lst false 9 (fl (enc_TItem false) x0) x0.length), (4, .lst false 1 (fl (encO false) v3) v3.length), (6, .sl 0 0 v5.length), (8, .int .i64 v12.1), (53, .bool false)]) (H' := [some ⟨fl (encO true) v12.2, 1⟩]) rfl rfl ?_
                refine RW.cond_f rfl ?_
                refine RW.skip ?_
                refine RW.sreg ?_
                refine rl.run 1 rfl ?_
                obtain ⟨v14, e14, h26⟩ := bindS h25
                refine rl.call rfl rfl rfl (CallW.val (r' := .lst false 9 (fl (enc_TItem false) v14) v14.length) ok_laws_toItemS (law_laws_toItemS e14) (.cons (.lst ek_TItem) .nil) (ek_TItem.fflag _).lst ?_)
                obtain ⟨v15, e15, h27⟩ := bindS h26
                refine rl.call rfl rfl rfl (CallW.val (r' := .lst false 1 (fl (encO false) v15) v15.length) ok_impl_NeededAll (law_impl_NeededAll e15) (.cons (.lst ek_TItem) .nil) (ekO.fflag _).lst ?_)
                refine rl.run 1 rfl ?_
                refine rl.done ?_
                refine RW.seq ?_
                refine RW.sreg ?_
                refine rl.run 2 rfl ?_
                obtain ⟨v16, e16, h28⟩ := bindS h27
                refine rl.call rfl rfl rfl (CallW.val (r' := .bool v16) ok_laws_eqBoolS (law_laws_eqBoolS e16) (.cons (.lst ekO) (.cons (.lst ekO) .nil)) .refl ?_)
                cases hb : v16
                · have h29 := iteBF h28 hb
                  refine rl.run 1 rfl ?_
                  refine rl.done ?_
                  refine RW.cond_t rfl ?_
                  refine RW.sreg ?_
                  refine rl.run 1 rfl ?_
                  refine rl.done ?_
                  refine RW.keep [2] (a' := [(2, .bool false)]) (H' := [some ⟨fl (encO true) v12.2, 1⟩]) rfl rfl ?_
                  refine RW.ret ?_
                  cases h29
                  exact RRet.mk rfl .bool (by first | decide | simp)
                · have h30 := iteBT h28 hb
                  refine rl.run 1 rfl ?_
                  refine rl.done ?_
                  refine RW.cond_f rfl ?_
                  refine RW.skip ?_
                  refine RW.sreg ?_
                  refine rl.run 1 rfl ?_
                  refine rl.done ?_
                  refine RW.keep [6, 8, 9] (a' := [(6, .sl 0 0 v5.length), (8, .int .i64 v12.1), (9, .int .i64 1)]) (H' := [some ⟨fl (encO true) v12.2, 1⟩]) rfl rfl ?_
                  refine RW.sreg ?_
                  refine rl.run 2 rfl ?_
                  obtain ⟨v17, e17, h31⟩ := bindS h30
                  refine rl.call rfl rfl rfl (CallW.val (r' := .int .i64 v17) ok_laws_heldBoolS (law_laws_heldBoolS e17) (.cons (.slq ekO rfl (guardO_p (p := fun r : Int × (List Bool) => v5.length = r.2.length) e12)) (.cons .int .nil)) .refl ?_)
                  refine rl.run 1 rfl ?_
                  refine rl.done ?_
                  refine RW.seq ?_
                  refine RW.sreg ?_
                  refine rl.run 1 rfl ?_
                  refine rl.gen rfl rfl fun b hb => ?_
                  cases b
                  · have h32 := iteBF h31 hb
                    refine rl.done ?_
                    refine RW.cond_f rfl ?_
                    refine RW.skip ?_
                    refine RW.seq ?_
                    refine RW.sreg ?_
                    refine rl.run 2 rfl ?_
                    refine rl.gen rfl rfl fun b hb => ?_
                    cases b
                    · have h33 := iteBF h32 hb
                      refine rl.done ?_
                      refine RW.cond_f rfl ?_
                      refine RW.skip ?_
                      refine RW.sreg ?_
                      refine rl.run 1 rfl ?_
                      refine rl.done ?_
                      refine RW.keep [2] (a' := [(2, .bool true)]) (H' := [some ⟨fl (encO true) v12.2, 1⟩]) rfl rfl ?_
                      refine RW.ret ?_
                      cases h33
                      exact RRet.mk rfl .bool (by first | decide | simp)
                    · have h34 := iteBT h32 hb
                      refine rl.done ?_
                      refine RW.cond_t rfl ?_
                      refine RW.sreg ?_
                      refine rl.run 1 rfl ?_
                      refine rl.done ?_
                      refine RW.keep [2] (a' := [(2, .bool false)]) (H' := [some ⟨fl (encO true) v12.2, 1⟩]) rfl rfl ?_
                      refine RW.ret ?_
                      cases h34
                      exact RRet.mk rfl .bool (by first | decide | simp)
                  · have h35 := iteBT h31 hb
                    refine rl.done ?_
                    refine RW.cond_t rfl ?_
                    refine RW.sreg ?_
                    refine rl.run 1 rfl ?_
                    refine rl.done ?_
                    refine RW.ret ?_
                    cases h35
                    exact RRet.mk rfl .bool (by first | decide | simp)
              · have h36 := iteBT h24 hb
                refine rl.done ?_
                refine RW.keep [0, 4, 6, 8, 53] (a' := [(0, .lst false 9 (fl (enc_TItem false) x0) x0.length), (4, .lst false 1 (fl (encO false) v3) v3.length), (6, .sl 0 0 v5.length), (8, .int .i64 v12.1), (53, .bool true)]) (H' := [some ⟨fl (encO true) v12.2, 1⟩]) rfl rfl ?_
                refine RW.cond_t rfl ?_
                refine RW.sreg ?_
                refine rl.run 1 rfl ?_
                refine rl.done ?_
                refine RW.ret ?_
                cases h36
                exact RRet.mk rfl .bool (by first | decide | simp)
            · have h37 := iteBT h23 hb
              refine rl.done ?_
              refine RW.cond_t rfl ?_
              refine RW.sreg ?_
              refine rl.run 1 rfl ?_
              refine rl.done ?_
              refine RW.keep [2] (a' := [(2, .bool false)]) (H' := [some ⟨fl (encO true) v12.2, 1⟩]) rfl rfl ?_
              refine RW.ret ?_
              cases h37
              exact RRet.mk rfl .bool (by first | decide | simp)
          · have h38 := iteBT h15 hb
            refine RW.cond_t rfl ?_
            refine RW.sreg ?_
            refine rl.run 1 rfl ?_
            refine rl.done ?_
            refine RW.ret ?_
            cases h38
            exact RRet.mk rfl .bool (by first | decide | simp)
  · have h39 := iteBT h1 hb
    refine rl.done ?_
    refine RW.cond_t rfl ?_
    refine RW.sreg ?_
    refine rl.run 1 rfl ?_
    refine rl.done ?_
    refine RW.ret ?_
    cases h39
    exact RRet.mk rfl .bool (by first | decide | simp)
end Go.Proofs.Ytgdcbjoaoagbpaa.V
