/- What a call comes to. -/
import Derived.Test.YtpecafogemipmaaXT
import Derived.Test.YtpecafogemipmaaXU
namespace Go.Proofs.Ytpecafogemipmaa.V
open Go Go.Proofs Go.RowKit
set_option maxRecDepth 100000
theorem law_laws_szRec {x0 : TRec} {x1 : Int} {r : Int} (hF : F_laws_szRec x0 x1 = some r) : PCalls Try.prog 26 [.agg (enc_TRec false x0), .int .i64 x1] (.int .i64 r) := by
  refine PCalls.of_r k_laws_szRec rfl ?_
  unfold F_laws_szRec at hF
  refine RW.sreg ?_
  refine rl.run 2 rfl ?_
  refine rl.done ?_
  refine RW.sreg ?_
  refine rl.run 6 rfl ?_
  refine rl.done ?_
  refine RW.seq ?_
  refine RW.sreg ?_
  refine rl.run 1 rfl ?_
  refine rl.gen rfl rfl fun b hb => ?_
  cases b
  · have h1 := iteBF hF hb
    refine rl.done ?_
    refine RW.cond_f rfl ?_
    refine RW.skip ?_
    refine RW.sreg ?_
    refine rl.run 6 rfl ?_
    refine rl.done ?_
    refine RW.keep [1, 2] (a' := [(1, .int .i64 (w64 ((w64 (x1 - (x0.User.length : Int))) - (x0.Name.length : Int)))), (2, .ptr 0 0)]) (H' := [some ⟨[.int .i64 x0.Kind, .int .i64 x0.Valid, .int .i64 x0.Uid, .int .i64 x0.Next, .int .i64 x0.Flags, .str x0.User, .str x0.Name, .str x0.Text], 0⟩]) rfl rfl ?_
    refine RW.seq ?_
    refine RW.sreg ?_
    refine rl.run 1 rfl ?_
    refine rl.gen rfl rfl fun b hb => ?_
    cases b
    · have h2 := iteBF h1 hb
      refine rl.done ?_
      refine RW.cond_f rfl ?_
      refine RW.skip ?_
      refine RW.sreg ?_
      refine rl.run 6 rfl ?_
      refine rl.done ?_
      refine RW.seq ?_
      refine RW.sreg ?_
      refine rl.run 1 rfl ?_
      refine rl.gen rfl rfl fun b hb => ?_
      cases b
      · have h3 := iteBF h2 hb
        refine rl.done ?_
        refine RW.cond_f rfl ?_
        refine RW.skip ?_
        refine RW.sreg ?_
        refine rl.run 2 rfl ?_
        refine rl.done ?_
        refine RW.keep [4] (a' := [(4, .int .i64 (w64 ((w64 ((w64 (x1 - (x0.User.length : Int))) - (x0.Name.length : Int))) - (x0.Text.length : Int))))]) (H' := [some ⟨[.int .i64 x0.Kind, .int .i64 x0.Valid, .int .i64 x0.Uid, .int .i64 x0.Next, .int .i64 x0.Flags, .str x0.User, .str x0.Name, .str x0.Text], 0⟩]) rfl rfl ?_
        refine RW.ret ?_
        cases h3
        exact RRet.mk rfl .int (by decide)
      · have h4 := iteBT h2 hb
        refine rl.done ?_
        refine RW.cond_t rfl ?_
        refine RW.sreg ?_
        refine rl.run 1 rfl ?_
        refine rl.done ?_
        refine RW.keep [4] (a' := [(4, .int .i64 (-1))]) (H' := [some ⟨[.int .i64 x0.Kind, .int .i64 x0.Valid, .int .i64 x0.Uid, .int .i64 x0.Next, .int .i64 x0.Flags, .str x0.User, .str x0.Name, .str x0.Text], 0⟩]) rfl rfl ?_
        refine RW.ret ?_
        cases h4
        exact RRet.mk rfl .int (by decide)
    · have h5 := iteBT h1 hb
      refine rl.done ?_
      refine RW.cond_t rfl ?_
      refine RW.sreg ?_
      refine rl.run 1 rfl ?_
      refine rl.done ?_
      refine RW.ret ?_
      cases h5
      exact RRet.mk rfl .int (by decide)
  · have h6 := iteBT hF hb
    refine rl.done ?_
    refine RW.cond_t rfl ?_
    refine RW.sreg ?_
    refine rl.run 1 rfl ?_
    refine rl.done ?_
    refine RW.ret ?_
    cases h6
    exact RRet.mk rfl .int (by decide)
theorem law_laws_szItem {x0 : TItem} {x1 : Int} {r : Int} (hF : F_laws_szItem x0 x1 = some r) : PCalls Try.prog 48 [.agg (enc_TItem false x0), .int .i64 x1] (.int .i64 r) := by
  refine PCalls.of_r k_laws_szItem rfl ?_
  unfold F_laws_szItem at hF
  refine RW.sreg ?_
  refine rl.run 2 rfl ?_
  refine rl.done ?_
  refine RW.sreg ?_
  refine rl.run 3 rfl ?_
  obtain ⟨v1, e1, h1⟩ := bindS hF
  refine rl.call rfl rfl rfl (CallW.val (r' := .int .i64 v1) ok_laws_szRec (law_laws_szRec e1) (.cons (DFL.agg (.cons .int (.cons .int (.cons .int (.cons .int (.cons .int (.cons .str (.cons .str (.cons .str .nil))))))))) (.cons .int .nil)) .refl ?_)
  refine rl.run 1 rfl ?_
  refine rl.done ?_
  refine RW.seq ?_
  refine RW.sreg ?_
  refine rl.run 1 rfl ?_
  refine rl.gen rfl rfl fun b hb => ?_
  cases b
  · have h2 := iteBF h1 hb
    refine rl.done ?_
    refine RW.cond_f rfl ?_
    refine RW.skip ?_
    refine RW.sreg ?_
    refine rl.run 2 rfl ?_
    refine rl.done ?_
    refine RW.ret ?_
    cases h2
    exact RRet.mk rfl .int (by decide)
  · have h3 := iteBT h1 hb
    refine rl.done ?_
    refine RW.cond_t rfl ?_
    refine RW.sreg ?_
    refine rl.run 1 rfl ?_
    refine rl.done ?_
    refine RW.ret ?_
    cases h3
    exact RRet.mk rfl .int (by decide)
theorem law_laws_szItemS {x0 : List TItem} {x1 : Int} {r : Int} (hF : F_laws_szItemS x0 x1 = some r) : PCalls Try.prog 16 [.lst false 9 (fl (enc_TItem false) x0) x0.length, .int .i64 x1] (.int .i64 r) := by
  refine PCalls.of_r k_laws_szItemS rfl ?_
  unfold F_laws_szItemS at hF
  refine RW.sreg ?_
  refine rl.run 1 rfl ?_
  refine rl.done ?_
  refine RW.sreg ?_
  refine rl.run 5 rfl ?_
  refine rl.done ?_
  refine RW.seq ?_
  refine RW.sreg ?_
  refine rl.run 1 rfl ?_
  refine rl.gen rfl rfl fun b hb => ?_
  cases b
  · have h1 := iteBF hF hb
    refine rl.done ?_
    refine RW.cond_f rfl ?_
    refine RW.skip ?_
    refine RW.seq ?_
    refine RW.sreg ?_
    refine rl.run 1 rfl ?_
    refine rl.done ?_
    obtain ⟨y5, ey5, h3⟩ := bindS h1
    refine RW.cutq (σ := Int) (fun y2 => [(1, .int .i64 y2)]) (fun y2 => []) (fun y => y5 = .inr y) (fun _ _ _ _ g h => RW.gh g h) ?_ ?_
    · refine RW.blk ?_
      refine RW.iter (σ := Int × Int) ey5 (fun s1 => [(0, .lst false 9 (fl (enc_TItem false) x0) x0.length), (1, .int .i64 s1.1), (5, .int .i64 s1.2)]) (fun s1 => []) (Gh.ren0 [] .nil rfl (.cons rfl (.dat (ek_TItem.rlst)) (.cons rfl (.dat .int) (.cons rfl (.dat .int) .nil)))) (fun s1 B o hS2 hB2 hE2 => ?_)
      unfold S_laws_szItemS_1 at hS2
      refine RW.seq ?_
      refine RW.sreg ?_
      refine rl.run 3 rfl ?_
      refine rl.gen rfl rfl fun b hb => ?_
      cases b
      · have h4 := iteBF hS2 hb
        refine rl.done ?_
        refine RW.cond_f rfl ?_
        refine RW.exit ?_
        refine blkA_eq ?_
        cases h4
        exact ⟨_, (hE2 _ rfl).symm, (Gh.ren0 [] .nil rfl (.cons rfl (.dat .int) .nil))⟩
      · have h5 := iteBT hS2 hb
        refine rl.done ?_
        refine RW.cond_t rfl ?_
        refine RW.skip ?_
        refine RW.seq ?_
        refine RW.blk ?_
        refine RW.sreg ?_
        refine rl.run 2 rfl ?_
        obtain ⟨v3, e3, h6⟩ := bindS h5
        refine rl.op (x_ia_lst (enc := enc_TItem) (o := false) rfl rfl rfl e3) ?_
        refine rl.op (x_ld_ela (off' := 0) (vs := (enc_TItem false v3)) ek_TItem rfl e3 rfl rfl rfl) ?_
        refine rl.run 1 rfl ?_
        obtain ⟨v4, e4, h7⟩ := bindS h6
        refine rl.call rfl rfl rfl (CallW.val (r' := .int .i64 v4) ok_laws_szItem (law_laws_szItem e4) (.cons (.dat (.agg (ek_TItem.dat false _))) (.cons .int .nil)) .refl ?_)
        refine rl.run 1 rfl ?_
        refine rl.done ?_
        refine RW.sreg ?_
        refine rl.run 1 rfl ?_
        refine rl.gen rfl rfl fun b hb => ?_
        cases b
        · have h8 := iteBF h7 hb
          refine rl.done ?_
          refine RW.keep [0, 1, 5, 25] (a' := [(0, .lst false 9 (fl (enc_TItem false) x0) x0.length), (1, .int .i64 v4), (5, .int .i64 s1.2), (25, .bool false)]) (H' := []) rfl rfl ?_
          refine RW.cond_f rfl ?_
          refine RW.skip ?_
          refine RW.reg ?_
          refine rl.run 3 rfl ?_
          refine rl.done ?_
          cases h8
          exact hB2 _ rfl _ _ (Gh.ren0 [] .nil rfl (.cons rfl (.dat (ek_TItem.rlst)) (.cons rfl (.dat .int) (.cons rfl (.dat .int) .nil))))
        · have h9 := iteBT h7 hb
          refine rl.done ?_
          refine RW.keep [0, 1, 5, 25] (a' := [(0, .lst false 9 (fl (enc_TItem false) x0) x0.length), (1, .int .i64 v4), (5, .int .i64 s1.2), (25, .bool true)]) (H' := []) rfl rfl ?_
          refine RW.cond_t rfl ?_
          refine RW.sreg ?_
          refine rl.run 1 rfl ?_
          refine rl.done ?_
          refine RW.ret ?_
          cases h9
          have h10 := elimL h3 (hE2 _ rfl)
          cases h10
          exact RRet.mk rfl .int (by decide)
    · intro y2 hC
      have h3 := elimR h3 hC
      refine RW.sreg ?_
      refine rl.run 2 rfl ?_
      refine rl.done ?_
      refine RW.ret ?_
      cases h3
      exact RRet.mk rfl .int (by decide)
  · have h11 := iteBT hF hb
    refine rl.done ?_
    refine RW.cond_t rfl ?_
    refine RW.sreg ?_
    refine rl.run 1 rfl ?_
    refine rl.done ?_
    refine RW.ret ?_
    cases h11
    exact RRet.mk rfl .int (by decide)
theorem law_spec_Without {x0 : List TItem} {x1 : List Bool} {r : List TItem} (hF : F_spec_Without x0 x1 = some r) : PCalls Try.prog 17 [.lst false 9 (fl (enc_TItem false) x0) x0.length, .lst false 1 (fl (encO false) x1) x1.length] (.lst true 9 (fl (enc_TItem true) r) r.length) := by
  refine PCalls.of_r k_spec_Without rfl ?_
  unfold F_spec_Without at hF
  refine RW.sreg ?_
  refine rl.run 1 rfl ?_
  refine rl.done ?_
  refine RW.sreg ?_
  refine rl.run 2 rfl ?_
  refine rl.done ?_
  refine RW.seq ?_
  refine RW.sreg ?_
  refine rl.run 1 rfl ?_
  refine rl.done ?_
  obtain ⟨y8, ey8, h2⟩ := bindS hF
  refine RW.cutq (σ := (List TItem)) (fun y2 => [(5, .sl 0 0 y2.length)]) (fun y2 => [some ⟨fl (enc_TItem true) y2, 9⟩]) (fun y => y8 = y) (fun _ _ _ _ g h => RW.gh g h) ?_ ?_
  · refine RW.blk ?_
    refine RW.iter (σ := Int × (List TItem)) ey8 (fun s1 => [(0, .lst false 9 (fl (enc_TItem false) x0) x0.length), (1, .lst false 1 (fl (encO false) x1) x1.length), (5, .sl 0 0 s1.2.length), (6, .int .i64 s1.1)]) (fun s1 => [some ⟨fl (enc_TItem true) s1.2, 9⟩]) (Gh.ren0 [0] (.same rfl (ek_TItem.fref _ _) .nil) rfl (.cons rfl (.dat (ek_TItem.rlst)) (.cons rfl (.dat (ekO.rlst)) (.cons rfl (.slq rfl rfl) (.cons rfl (.dat .int) .nil))))) (fun s1 B o hS1 hB1 hE1 => ?_)
    unfold S_spec_Without_1 at hS1
    refine RW.seq ?_
    refine RW.sreg ?_
    refine rl.run 3 rfl ?_
    refine rl.gen rfl rfl fun b hb => ?_
    cases b
    · have h3 := iteBF hS1 hb
      refine rl.done ?_
      refine RW.cond_f rfl ?_
      refine RW.exit ?_
      refine blkA_eq ?_
      cases h3
      exact ⟨_, (hE1 _ rfl).symm, (Gh.ren0 [0] (.same rfl (ek_TItem.fref _ _) .nil) rfl (.cons rfl (.slq rfl rfl) .nil))⟩
    · have h4 := iteBT hS1 hb
      refine rl.done ?_
      refine RW.cond_t rfl ?_
      refine RW.skip ?_
      refine RW.seq ?_
      refine RW.blk ?_
      refine RW.sreg ?_
      refine rl.run 3 rfl ?_
      refine rl.gen rfl rfl fun b hb => ?_
      cases b
      · have h5 := iteBF h4 hb
        refine rl.run 3 rfl ?_
        obtain ⟨v3, e3, h6⟩ := bindS h5
        refine rl.gop rfl (x_ia_lst (enc := encO) (o := false) rfl rfl rfl e3) ?_
        refine rl.gop rfl (x_ld_el (off' := 0) ekO rfl e3 rfl rfl rfl) ?_
        refine rl.run 2 rfl ?_
        refine rl.done ?_
        cases hb : (!v3)
        · have h7 := iteBF h6 hb
          refine RW.cond_f rfl ?_
          refine RW.skip ?_
          refine RW.reg ?_
          refine rl.run 3 rfl ?_
          refine rl.done ?_
          cases h7
          exact hB1 _ rfl _ _ (Gh.ren0 [0] (.same rfl (ek_TItem.fref _ _) .nil) rfl (.cons rfl (.dat (ek_TItem.rlst)) (.cons rfl (.dat (ekO.rlst)) (.cons rfl (.slq rfl rfl) (.cons rfl (.dat .int) .nil)))))
        · have h8 := iteBT h6 hb
          refine RW.cond_t rfl ?_
          refine RW.reg ?_
          refine rl.run 3 rfl ?_
          obtain ⟨v4, e4, h9⟩ := bindS h8
          refine rl.op (x_ia_lst (enc := enc_TItem) (o := false) rfl rfl rfl e4) ?_
          refine rl.op (x_ld_ela (off' := 0) (vs := (enc_TItem false v4)) ek_TItem rfl e4 rfl rfl rfl) ?_
          refine rl.run 1 rfl ?_
          obtain ⟨v5, e5, h10⟩ := bindS h9
          refine rl.op (x_app rfl rfl (rapp_sl (l := s1.2) (m := [v4]) (o := true) ek_TItem rfl rfl (acont_slq (m := [v4]) (o := true) fk_TItem rfl rfl) rfl (fk_TItem.fst _ _) e5)) ?_
          refine rl.run 1 rfl ?_
          refine rl.done ?_
          refine RW.reg ?_
          refine rl.run 3 rfl ?_
          refine rl.done ?_
          cases h10
          exact hB1 _ rfl _ _ (Gh.ren0 [2] (.same rfl (ek_TItem.fref _ _) .nil) rfl (.cons rfl (.dat (ek_TItem.rlst)) (.cons rfl (.dat (ekO.rlst)) (.cons rfl (.slq rfl rfl) (.cons rfl (.dat .int) .nil)))))
      · have h11 := iteBT h4 hb
        refine rl.run 7 rfl ?_
        refine rl.done ?_
        refine RW.keep [0, 1, 5, 6, 24] (a' := [(0, .lst false 9 (fl (enc_TItem false) x0) x0.length), (1, .lst false 1 (fl (encO false) x1) x1.length), (5, .sl 0 0 s1.2.length), (6, .int .i64 s1.1), (24, .bool true)]) (H' := [some ⟨fl (enc_TItem true) s1.2, 9⟩]) rfl rfl ?_
        refine RW.cond_t rfl ?_
        refine RW.reg ?_
        refine rl.run 3 rfl ?_
        obtain ⟨v6, e6, h12⟩ := bindS h11
        refine rl.op (x_ia_lst (enc := enc_TItem) (o := false) rfl rfl rfl e6) ?_
        refine rl.op (x_ld_ela (off' := 0) (vs := (enc_TItem false v6)) ek_TItem rfl e6 rfl rfl rfl) ?_
        refine rl.run 1 rfl ?_
        obtain ⟨v7, e7, h13⟩ := bindS h12
        refine rl.op (x_app rfl rfl (rapp_sl (l := s1.2) (m := [v6]) (o := true) ek_TItem rfl rfl (acont_slq (m := [v6]) (o := true) fk_TItem rfl rfl) rfl (fk_TItem.fst _ _) e7)) ?_
        refine rl.run 1 rfl ?_
        refine rl.done ?_
        refine RW.reg ?_
        refine rl.run 3 rfl ?_
        refine rl.done ?_
        cases h13
        exact hB1 _ rfl _ _ (Gh.ren0 [2] (.same rfl (ek_TItem.fref _ _) .nil) rfl (.cons rfl (.dat (ek_TItem.rlst)) (.cons rfl (.dat (ekO.rlst)) (.cons rfl (.slq rfl rfl) (.cons rfl (.dat .int) .nil)))))
  · intro y2 hC
    subst hC
    refine RW.sreg ?_
    refine rl.run 2 rfl ?_
    refine rl.done ?_
    refine RW.ret ?_
    cases h2
    exact RRet.mk rfl (OutR.ownq ek_TItem rfl rfl) (by decide)
theorem law_laws_toRec {x0 : TRec} {r : TRec} (hF : F_laws_toRec x0 = some r) : PCalls Try.prog 28 [.agg (enc_TRec false x0)] (.agg (enc_TRec true r)) := by
  refine PCalls.of_r k_laws_toRec rfl ?_
  unfold F_laws_toRec at hF
  refine RW.sreg ?_
  refine rl.run 2 rfl ?_
  refine rl.done ?_
  refine RW.sreg ?_
  refine rl.run 1 rfl ?_
  refine rl.done ?_
  refine RW.sreg ?_
  refine rl.run 4 rfl ?_
  refine rl.done ?_
  refine RW.sreg ?_
  refine rl.run 4 rfl ?_
  refine rl.done ?_
  refine RW.sreg ?_
  refine rl.run 4 rfl ?_
  refine rl.done ?_
  refine RW.sreg ?_
  refine rl.run 4 rfl ?_
  refine rl.done ?_
  refine RW.keep [1, 2, 3] (a' := [(1, .ptr 0 0), (2, .ptr 1 0), (3, .ptr 2 0)]) (H' := [some ⟨[.int .i64 x0.Kind, .int .i64 x0.Valid, .int .i64 x0.Uid, .int .i64 x0.Next, .int .i64 x0.Flags, .str x0.User, .str x0.Name, .str x0.Text], 0⟩, some ⟨[.int .i64 0, .int .i64 0, .int .i64 0, .int .i64 0, .int .i64 0, .str [], .str [], .str []], 0⟩, some ⟨[.int .i64 x0.Kind, .int .i64 x0.Valid, .int .i64 x0.Uid, .int .i64 x0.Next, .int .i64 0, .str [], .str [], .str []], 0⟩]) rfl rfl ?_
  refine RW.sreg ?_
  refine rl.run 4 rfl ?_
  refine rl.done ?_
  refine RW.sreg ?_
  refine rl.run 4 rfl ?_
  refine rl.done ?_
  refine RW.sreg ?_
  refine rl.run 4 rfl ?_
  refine rl.done ?_
  refine RW.sreg ?_
  refine rl.run 4 rfl ?_
  refine rl.done ?_
  refine RW.keep [2, 3] (a' := [(2, .ptr 1 0), (3, .ptr 2 0)]) (H' := [some ⟨[.int .i64 x0.Kind, .int .i64 x0.Valid, .int .i64 x0.Uid, .int .i64 x0.Next, .int .i64 x0.Flags, .str x0.User, .str x0.Name, .str x0.Text], 0⟩, some ⟨[.int .i64 0, .int .i64 0, .int .i64 0, .int .i64 0, .int .i64 0, .str [], .str [], .str []], 0⟩, some ⟨[.int .i64 x0.Kind, .int .i64 x0.Valid, .int .i64 x0.Uid, .int .i64 x0.Next, .int .i64 x0.Flags, .str x0.User, .str x0.Name, .str x0.Text], 0⟩]) rfl rfl ?_
  refine RW.sreg ?_
  refine rl.run 2 rfl ?_
  refine rl.done ?_
  refine RW.ret ?_
  cases hF
  exact RRet.mk rfl (OutL.agg (.cons .int rfl (.cons .int rfl (.cons .int rfl (.cons .int rfl (.cons .int rfl (.cons .str rfl (.cons .str rfl (.cons .str rfl .nil))))))))) (by decide)
theorem law_laws_toItem {x0 : TItem} {r : TItem} (hF : F_laws_toItem x0 = some r) : PCalls Try.prog 49 [.agg (enc_TItem false x0)] (.agg (enc_TItem true r)) := by
  refine PCalls.of_r k_laws_toItem rfl ?_
  unfold F_laws_toItem at hF
  refine RW.sreg ?_
  refine rl.run 2 rfl ?_
  refine rl.done ?_
  refine RW.sreg ?_
  refine rl.run 1 rfl ?_
  refine rl.done ?_
  refine RW.sreg ?_
  refine rl.run 4 rfl ?_
  refine rl.done ?_
  refine RW.sreg ?_
  refine rl.run 2 rfl ?_
  obtain ⟨v1, e1, h1⟩ := bindS hF
  refine rl.call rfl rfl rfl (CallW.val (r' := .agg (enc_TRec false v1)) ok_laws_toRec (law_laws_toRec e1) (.cons (DFL.agg (.cons .int (.cons .int (.cons .int (.cons .int (.cons .int (.cons .str (.cons .str (.cons .str .nil))))))))) .nil) .refl ?_)
  refine rl.run 2 rfl ?_
  refine rl.done ?_
  refine RW.sreg ?_
  refine rl.run 2 rfl ?_
  refine rl.done ?_
  refine RW.keep [2] (a' := [(2, .ptr 1 0)]) (H' := [some ⟨[.int .i64 x0.Seq, .int .i64 x0.Rec.Kind, .int .i64 x0.Rec.Valid, .int .i64 x0.Rec.Uid, .int .i64 x0.Rec.Next, .int .i64 x0.Rec.Flags, .str x0.Rec.User, .str x0.Rec.Name, .str x0.Rec.Text], 0⟩, some ⟨[.int .i64 x0.Seq, .int .i64 v1.Kind, .int .i64 v1.Valid, .int .i64 v1.Uid, .int .i64 v1.Next, .int .i64 v1.Flags, .str v1.User, .str v1.Name, .str v1.Text], 0⟩, some ⟨[.int .i64 x0.Seq, .int .i64 v1.Kind, .int .i64 v1.Valid, .int .i64 v1.Uid, .int .i64 v1.Next, .int .i64 v1.Flags, .str v1.User, .str v1.Name, .str v1.Text], 0⟩]) rfl rfl ?_
  refine RW.ret ?_
  cases h1
  exact RRet.mk rfl (OutL.agg (.cons .int rfl (.cons .int rfl (.cons .int rfl (.cons .int rfl (.cons .int rfl (.cons .int rfl (.cons .str rfl (.cons .str rfl (.cons .str rfl .nil)))))))))) (by decide)
theorem law_laws_toItemS {x0 : List TItem} {r : List TItem} (hF : F_laws_toItemS x0 = some r) : PCalls Try.prog 18 [.lst false 9 (fl (enc_TItem false) x0) x0.length] (.lst true 9 (fl (enc_TItem true) r) r.length) := by
  refine PCalls.of_r k_laws_toItemS rfl ?_
  unfold F_laws_toItemS at hF
  refine RW.sreg ?_
  refine rl.run 1 rfl ?_
  refine rl.done ?_
  refine RW.sreg ?_
  refine rl.run 2 rfl ?_
  obtain ⟨v1, e1, h1⟩ := bindS hF
  refine rl.op (x_ms ek_TItem rfl rfl e1 rfl) ?_
  refine rl.run 1 rfl ?_
  refine rl.done ?_
  refine RW.seq ?_
  refine RW.sreg ?_
  refine rl.run 1 rfl ?_
  refine rl.done ?_
  obtain ⟨y8, ey8, h3⟩ := bindS h1
  refine RW.cutq (σ := (List TItem)) (fun y3 => [(3, .sl 0 0 y3.length)]) (fun y3 => [some ⟨fl (enc_TItem true) y3, 9⟩]) (fun y => y8 = y) (fun _ _ _ _ g h => RW.gh g h) ?_ ?_
  · refine RW.blk ?_
    refine RW.iter (σ := Int × (List TItem)) ey8 (fun s2 => [(0, .lst false 9 (fl (enc_TItem false) x0) x0.length), (3, .sl 0 0 s2.2.length), (4, .int .i64 s2.1)]) (fun s2 => [some ⟨fl (enc_TItem true) s2.2, 9⟩]) (Gh.ren0 [0] (.same rfl (ek_TItem.fref _ _) .nil) rfl (.cons rfl (.dat (ek_TItem.rlst)) (.cons rfl (.slq rfl rfl) (.cons rfl (.dat .int) .nil)))) (fun s2 B o hS2 hB2 hE2 => ?_)
    unfold S_laws_toItemS_1 at hS2
    refine RW.seq ?_
    refine RW.sreg ?_
    refine rl.run 3 rfl ?_
    refine rl.gen rfl rfl fun b hb => ?_
    cases b
    · have h4 := iteBF hS2 hb
      refine rl.done ?_
      refine RW.cond_f rfl ?_
      refine RW.exit ?_
      refine blkA_eq ?_
      cases h4
      exact ⟨_, (hE2 _ rfl).symm, (Gh.ren0 [0] (.same rfl (ek_TItem.fref _ _) .nil) rfl (.cons rfl (.slq rfl rfl) .nil))⟩
    · have h5 := iteBT hS2 hb
      refine rl.done ?_
      refine RW.cond_t rfl ?_
      refine RW.skip ?_
      refine RW.seq ?_
      refine RW.blk ?_
      refine RW.reg ?_
      refine rl.run 4 rfl ?_
      obtain ⟨v4, e4, h6⟩ := bindS h5
      refine rl.op (x_ia_lst (enc := enc_TItem) (o := false) rfl rfl rfl e4) ?_
      refine rl.op (x_ld_ela (off' := 0) (vs := (enc_TItem false v4)) ek_TItem rfl e4 rfl rfl rfl) ?_
      obtain ⟨v5, e5, h7⟩ := bindS h6
      refine rl.call rfl rfl rfl (CallW.val (r' := .agg (enc_TItem false v5)) ok_laws_toItem (law_laws_toItem e5) (.cons (.dat (.agg (ek_TItem.dat false _))) .nil) .refl ?_)
      obtain ⟨v6, e6, h8⟩ := bindS h7
      refine rl.op (x_ia_sl rfl rfl rfl rfl e6) ?_
      obtain ⟨v7, e7, h9⟩ := bindS h8
      refine rl.op0 (x_st_sl' (off' := 0) (o := true) (e' := v5) ek_TItem e6 rfl rfl rfl rfl rfl rfl rfl rfl rfl e7) ?_
      refine rl.done ?_
      refine RW.reg ?_
      refine rl.run 3 rfl ?_
      refine rl.done ?_
      cases h9
      exact hB2 _ rfl _ _ (Gh.ren0 [0] (.same rfl (ek_TItem.fref _ _) .nil) rfl (.cons rfl (.dat (ek_TItem.rlst)) (.cons rfl (.slq rfl (set'_len e7)) (.cons rfl (.dat .int) .nil))))
  · intro y3 hC
    subst hC
    refine RW.sreg ?_
    refine rl.run 2 rfl ?_
    refine rl.done ?_
    refine RW.ret ?_
    cases h3
    exact RRet.mk rfl (OutR.ownq ek_TItem rfl rfl) (by decide)
theorem law_laws_toBoolS {x0 : List Bool} {r : List Bool} (hF : F_laws_toBoolS x0 = some r) : PCalls Try.prog 19 [.lst false 1 (fl (encO false) x0) x0.length] (.lst true 1 (fl (encO true) r) r.length) := by
  refine PCalls.of_r k_laws_toBoolS rfl ?_
  unfold F_laws_toBoolS at hF
  refine RW.sreg ?_
  refine rl.run 1 rfl ?_
  refine rl.done ?_
  refine RW.sreg ?_
  refine rl.run 2 rfl ?_
  obtain ⟨v1, e1, h1⟩ := bindS hF
  refine rl.op (x_ms ekO rfl rfl e1 rfl) ?_
  refine rl.run 1 rfl ?_
  refine rl.done ?_
  refine RW.seq ?_
  refine RW.sreg ?_
  refine rl.run 1 rfl ?_
  refine rl.done ?_
  obtain ⟨y7, ey7, h3⟩ := bindS h1
  refine RW.cutq (σ := (List Bool)) (fun y3 => [(3, .sl 0 0 y3.length)]) (fun y3 => [some ⟨fl (encO true) y3, 1⟩]) (fun y => y7 = y) (fun _ _ _ _ g h => RW.gh g h) ?_ ?_
  · refine RW.blk ?_
    refine RW.iter (σ := Int × (List Bool)) ey7 (fun s2 => [(0, .lst false 1 (fl (encO false) x0) x0.length), (3, .sl 0 0 s2.2.length), (4, .int .i64 s2.1)]) (fun s2 => [some ⟨fl (encO true) s2.2, 1⟩]) (Gh.ren0 [0] (.same rfl (ekO.fref _ _) .nil) rfl (.cons rfl (.dat (ekO.rlst)) (.cons rfl (.slq rfl rfl) (.cons rfl (.dat .int) .nil)))) (fun s2 B o hS2 hB2 hE2 => ?_)
    unfold S_laws_toBoolS_1 at hS2
    refine RW.seq ?_
    refine RW.sreg ?_
    refine rl.run 3 rfl ?_
    refine rl.gen rfl rfl fun b hb => ?_
    cases b
    · have h4 := iteBF hS2 hb
      refine rl.done ?_
      refine RW.cond_f rfl ?_
      refine RW.exit ?_
      refine blkA_eq ?_
      cases h4
      exact ⟨_, (hE2 _ rfl).symm, (Gh.ren0 [0] (.same rfl (ekO.fref _ _) .nil) rfl (.cons rfl (.slq rfl rfl) .nil))⟩
    · have h5 := iteBT hS2 hb
      refine rl.done ?_
      refine RW.cond_t rfl ?_
      refine RW.skip ?_
      refine RW.seq ?_
      refine RW.blk ?_
      refine RW.reg ?_
      refine rl.run 4 rfl ?_
      obtain ⟨v4, e4, h6⟩ := bindS h5
      refine rl.op (x_ia_lst (enc := encO) (o := false) rfl rfl rfl e4) ?_
      refine rl.op (x_ld_el (off' := 0) ekO rfl e4 rfl rfl rfl) ?_
      obtain ⟨v5, e5, h7⟩ := bindS h6
      refine rl.op (x_ia_sl rfl rfl rfl rfl e5) ?_
      obtain ⟨v6, e6, h8⟩ := bindS h7
      refine rl.op0 (x_st_sl' (off' := 0) (o := true) (e' := v4) ekO e5 rfl rfl rfl rfl rfl rfl rfl rfl rfl e6) ?_
      refine rl.done ?_
      refine RW.reg ?_
      refine rl.run 3 rfl ?_
      refine rl.done ?_
      cases h8
      exact hB2 _ rfl _ _ (Gh.ren0 [0] (.same rfl (ekO.fref _ _) .nil) rfl (.cons rfl (.dat (ekO.rlst)) (.cons rfl (.slq rfl (set'_len e6)) (.cons rfl (.dat .int) .nil))))
  · intro y3 hC
    subst hC
    refine RW.sreg ?_
    refine rl.run 2 rfl ?_
    refine rl.done ?_
    refine RW.ret ?_
    cases h3
    exact RRet.mk rfl (OutR.ownq ekO rfl rfl) (by decide)
theorem law_impl_dropped {x0 : List Bool} {x1 : Int} {r : Bool} (hF : F_impl_dropped x0 x1 = some r) : PCalls Try.prog 50 [.lst false 1 (fl (encO false) x0) x0.length, .int .i64 x1] (.bool r) := by
  refine PCalls.of_r k_impl_dropped rfl ?_
  unfold F_impl_dropped at hF
  refine RW.sreg ?_
  refine rl.run 1 rfl ?_
  refine rl.done ?_
  refine RW.sreg ?_
  refine rl.run 3 rfl ?_
  refine rl.gen rfl rfl fun b hb => ?_
  cases b
  · have h1 := iteBF hF hb
    refine rl.run 7 rfl ?_
    refine rl.done ?_
    refine RW.keep [4] (a' := [(4, .bool false)]) (H' := []) rfl rfl ?_
    refine RW.ret ?_
    cases h1
    exact RRet.mk rfl .bool (by decide)
  · have h2 := iteBT hF hb
    refine rl.run 3 rfl ?_
    obtain ⟨v1, e1, h3⟩ := bindS h2
    refine rl.gop rfl (x_ia_lst (enc := encO) (o := false) rfl rfl rfl e1) ?_
    refine rl.gop rfl (x_ld_el (off' := 0) ekO rfl e1 rfl rfl rfl) ?_
    refine rl.run 2 rfl ?_
    refine rl.done ?_
    refine RW.keep [4] (a' := [(4, .bool v1)]) (H' := []) rfl rfl ?_
    refine RW.ret ?_
    cases h3
    exact RRet.mk rfl .bool (by decide)
theorem law_impl_Without {x0 : List TItem} {x1 : List Bool} {r : List TItem} (hF : F_impl_Without x0 x1 = some r) : PCalls Try.prog 20 [.lst false 9 (fl (enc_TItem false) x0) x0.length, .lst false 1 (fl (encO false) x1) x1.length] (.lst true 9 (fl (enc_TItem true) r) r.length) := by
  refine PCalls.of_r k_impl_Without rfl ?_
  unfold F_impl_Without at hF
  refine RW.sreg ?_
  refine rl.run 1 rfl ?_
  refine rl.done ?_
  refine RW.sreg ?_
  refine rl.run 2 rfl ?_
  refine rl.done ?_
  refine RW.seq ?_
  refine RW.sreg ?_
  refine rl.run 3 rfl ?_
  refine rl.done ?_
  obtain ⟨y6, ey6, h2⟩ := bindS hF
  refine RW.cutq (σ := (List TItem)) (fun y2 => [(5, .sl 0 0 y2.length)]) (fun y2 => [some ⟨fl (enc_TItem true) y2, 9⟩]) (fun y => y6 = y) (fun _ _ _ _ g h => RW.gh g h) ?_ ?_
  · refine RW.blk ?_
    refine RW.iter (σ := Int × (List TItem)) ey6 (fun s1 => [(1, .lst false 1 (fl (encO false) x1) x1.length), (5, .sl 0 0 s1.2.length), (9, .lst false 9 (fl (enc_TItem false) x0) x0.length), (10, .int .i64 (x0.length : Int)), (11, .int .i64 s1.1)]) (fun s1 => [some ⟨fl (enc_TItem true) s1.2, 9⟩]) (Gh.ren0 [0] (.same rfl (ek_TItem.fref _ _) .nil) rfl (.cons rfl (.dat (ekO.rlst)) (.cons rfl (.slq rfl rfl) (.cons rfl (.dat (ek_TItem.rlst)) (.cons rfl (.dat .int) (.cons rfl (.dat .int) .nil)))))) (fun s1 B o hS1 hB1 hE1 => ?_)
    unfold S_impl_Without_1 at hS1
    refine RW.sreg ?_
    refine rl.gen rfl rfl fun b hb => ?_
    cases b
    · have h3 := iteBF hS1 hb
      refine rl.done ?_
      refine RW.seq ?_
      refine RW.cond_f rfl ?_
      refine RW.exit ?_
      refine blkA_eq ?_
      cases h3
      exact ⟨_, (hE1 _ rfl).symm, (Gh.ren0 [0] (.same rfl (ek_TItem.fref _ _) .nil) rfl (.cons rfl (.slq rfl rfl) .nil))⟩
    · have h4 := iteBT hS1 hb
      refine rl.done ?_
      refine RW.seq ?_
      refine RW.cond_t rfl ?_
      refine RW.skip ?_
      refine RW.seq ?_
      refine RW.blk ?_
      refine RW.sreg ?_
      refine rl.run 1 rfl ?_
      obtain ⟨v3, e3, h5⟩ := bindS h4
      refine rl.op (x_ia_lst (enc := enc_TItem) (o := false) rfl rfl rfl e3) ?_
      refine rl.op (x_ld_ela (off' := 0) (vs := (enc_TItem false v3)) ek_TItem rfl e3 rfl rfl rfl) ?_
      refine rl.run 3 rfl ?_
      refine rl.done ?_
      refine RW.sreg ?_
      refine rl.run 2 rfl ?_
      obtain ⟨v4, e4, h6⟩ := bindS h5
      refine rl.call rfl rfl rfl (CallW.val (r' := .bool v4) ok_impl_dropped (law_impl_dropped e4) (.cons (.lst ekO) (.cons .int .nil)) .refl ?_)
      cases hb : v4
      · have h7 := iteBF h6 hb
        refine rl.run 1 rfl ?_
        refine rl.done ?_
        refine RW.cond_t rfl ?_
        refine RW.reg ?_
        refine rl.run 3 rfl ?_
        obtain ⟨v5, e5, h8⟩ := bindS h7
        refine rl.op (x_app rfl rfl (rapp_sl (l := s1.2) (m := [v3]) (o := true) ek_TItem rfl rfl (acont_slq (m := [v3]) (o := true) fk_TItem rfl rfl) rfl (fk_TItem.fst _ _) e5)) ?_
        refine rl.run 1 rfl ?_
        refine rl.done ?_
        refine RW.reg ?_
        refine rl.run 2 rfl ?_
        refine rl.done ?_
        cases h8
        exact hB1 _ rfl _ _ (Gh.ren0 [3] (.same rfl (ek_TItem.fref _ _) .nil) rfl (.cons rfl (.dat (ekO.rlst)) (.cons rfl (.slq rfl rfl) (.cons rfl (.dat (ek_TItem.rlst)) (.cons rfl (.dat .int) (.cons rfl (.dat .int) .nil))))))
      · have h9 := iteBT h6 hb
        refine rl.run 1 rfl ?_
        refine rl.done ?_
        refine RW.cond_f rfl ?_
        refine RW.skip ?_
        refine RW.reg ?_
        refine rl.run 2 rfl ?_
        refine rl.done ?_
        cases h9
        exact hB1 _ rfl _ _ (Gh.ren0 [0] (.same rfl (ek_TItem.fref _ _) .nil) rfl (.cons rfl (.dat (ekO.rlst)) (.cons rfl (.slq rfl rfl) (.cons rfl (.dat (ek_TItem.rlst)) (.cons rfl (.dat .int) (.cons rfl (.dat .int) .nil))))))
  · intro y2 hC
    subst hC
    refine RW.sreg ?_
    refine rl.run 2 rfl ?_
    refine rl.done ?_
    refine RW.ret ?_
    cases h2
    exact RRet.mk rfl (OutR.ownq ek_TItem rfl rfl) (by decide)
theorem law_laws_eqRec {x0 : TRec} {x1 : TRec} {r : Bool} (hF : F_laws_eqRec x0 x1 = some r) : PCalls Try.prog 75 [.agg (enc_TRec false x0), .agg (enc_TRec false x1)] (.bool r) := by
  refine PCalls.of_r k_laws_eqRec rfl ?_
  unfold F_laws_eqRec at hF
  refine RW.sreg ?_
  refine rl.run 3 rfl ?_
  refine rl.done ?_
  refine RW.seq ?_
  refine RW.sreg ?_
  refine rl.run 4 rfl ?_
  refine rl.gen rfl rfl fun b hb => ?_
  cases b
  · have h1 := iteBF hF hb
    refine rl.done ?_
    refine RW.cond_f rfl ?_
    refine RW.skip ?_
    refine RW.seq ?_
    refine RW.sreg ?_
    refine rl.run 4 rfl ?_
    refine rl.gen rfl rfl fun b hb => ?_
    cases b
    · have h2 := iteBF h1 hb
      refine rl.done ?_
      refine RW.keep [2, 3, 14] (a' := [(2, .ptr 0 0), (3, .ptr 1 0), (14, .bool false)]) (H' := [some ⟨[.int .i64 x0.Kind, .int .i64 x0.Valid, .int .i64 x0.Uid, .int .i64 x0.Next, .int .i64 x0.Flags, .str x0.User, .str x0.Name, .str x0.Text], 0⟩, some ⟨[.int .i64 x1.Kind, .int .i64 x1.Valid, .int .i64 x1.Uid, .int .i64 x1.Next, .int .i64 x1.Flags, .str x1.User, .str x1.Name, .str x1.Text], 0⟩]) rfl rfl ?_
      refine RW.cond_f rfl ?_
      refine RW.skip ?_
      refine RW.seq ?_
      refine RW.sreg ?_
      refine rl.run 4 rfl ?_
      refine rl.gen rfl rfl fun b hb => ?_
      cases b
      · have h3 := iteBF h2 hb
        refine rl.done ?_
        refine RW.cond_f rfl ?_
        refine RW.skip ?_
        refine RW.seq ?_
        refine RW.sreg ?_
        refine rl.run 4 rfl ?_
        refine rl.gen rfl rfl fun b hb => ?_
        cases b
        · have h4 := iteBF h3 hb
          refine rl.done ?_
          refine RW.cond_f rfl ?_
          refine RW.skip ?_
          refine RW.seq ?_
          refine RW.sreg ?_
          refine rl.run 4 rfl ?_
          refine rl.gen rfl rfl fun b hb => ?_
          cases b
          · have h5 := iteBF h4 hb
            refine rl.done ?_
            refine RW.keep [2, 3, 29] (a' := [(2, .ptr 0 0), (3, .ptr 1 0), (29, .bool false)]) (H' := [some ⟨[.int .i64 x0.Kind, .int .i64 x0.Valid, .int .i64 x0.Uid, .int .i64 x0.Next, .int .i64 x0.Flags, .str x0.User, .str x0.Name, .str x0.Text], 0⟩, some ⟨[.int .i64 x1.Kind, .int .i64 x1.Valid, .int .i64 x1.Uid, .int .i64 x1.Next, .int .i64 x1.Flags, .str x1.User, .str x1.Name, .str x1.Text], 0⟩]) rfl rfl ?_
            refine RW.cond_f rfl ?_
            refine RW.skip ?_
            refine RW.seq ?_
            refine RW.sreg ?_
            refine rl.run 4 rfl ?_
            refine rl.gen rfl rfl fun b hb => ?_
            cases b
            · have h6 := iteBF h5 hb
              refine rl.done ?_
              refine RW.cond_f rfl ?_
              refine RW.skip ?_
              refine RW.seq ?_
              refine RW.sreg ?_
              refine rl.run 4 rfl ?_
              refine rl.gen rfl rfl fun b hb => ?_
              cases b
              · have h7 := iteBF h6 hb
                refine rl.done ?_
                refine RW.cond_f rfl ?_
                refine RW.skip ?_
                refine RW.seq ?_
                refine RW.sreg ?_
                refine rl.run 4 rfl ?_
                refine rl.gen rfl rfl fun b hb => ?_
                cases b
                · have h8 := iteBF h7 hb
                  refine rl.done ?_
                  refine RW.keep [44] (a' := [(44, .bool false)]) (H' := [some ⟨[.int .i64 x0.Kind, .int .i64 x0.Valid, .int .i64 x0.Uid, .int .i64 x0.Next, .int .i64 x0.Flags, .str x0.User, .str x0.Name, .str x0.Text], 0⟩, some ⟨[.int .i64 x1.Kind, .int .i64 x1.Valid, .int .i64 x1.Uid, .int .i64 x1.Next, .int .i64 x1.Flags, .str x1.User, .str x1.Name, .str x1.Text], 0⟩]) rfl rfl ?_
                  refine RW.cond_f rfl ?_
                  refine RW.skip ?_
                  refine RW.sreg ?_
                  refine rl.run 1 rfl ?_
                  refine rl.done ?_
                  refine RW.ret ?_
                  cases h8
                  exact RRet.mk rfl .bool (by decide)
                · have h9 := iteBT h7 hb
                  refine rl.done ?_
                  refine RW.keep [44] (a' := [(44, .bool true)]) (H' := [some ⟨[.int .i64 x0.Kind, .int .i64 x0.Valid, .int .i64 x0.Uid, .int .i64 x0.Next, .int .i64 x0.Flags, .str x0.User, .str x0.Name, .str x0.Text], 0⟩, some ⟨[.int .i64 x1.Kind, .int .i64 x1.Valid, .int .i64 x1.Uid, .int .i64 x1.Next, .int .i64 x1.Flags, .str x1.User, .str x1.Name, .str x1.Text], 0⟩]) rfl rfl ?_
                  refine RW.cond_t rfl ?_
                  refine RW.sreg ?_
                  refine rl.run 1 rfl ?_
                  refine rl.done ?_
                  refine RW.ret ?_
                  cases h9
                  exact RRet.mk rfl .bool (by decide)
              · have h10 := iteBT h6 hb
                refine rl.done ?_
                refine RW.cond_t rfl ?_
                refine RW.sreg ?_
                refine rl.run 1 rfl ?_
                refine rl.done ?_
                refine RW.keep [4] (a' := [(4, .bool false)]) (H' := [some ⟨[.int .i64 x0.Kind, .int .i64 x0.Valid, .int .i64 x0.Uid, .int .i64 x0.Next, .int .i64 x0.Flags, .str x0.User, .str x0.Name, .str x0.Text], 0⟩, some ⟨[.int .i64 x1.Kind, .int .i64 x1.Valid, .int .i64 x1.Uid, .int .i64 x1.Next, .int .i64 x1.Flags, .str x1.User, .str x1.Name, .str x1.Text], 0⟩]) rfl rfl ?_
                refine RW.ret ?_
                cases h10
                exact RRet.mk rfl .bool (by decide)
            · have h11 := iteBT h5 hb
              refine rl.done ?_
              refine RW.cond_t rfl ?_
              refine RW.sreg ?_
              refine rl.run 1 rfl ?_
              refine rl.done ?_
              refine RW.ret ?_
              cases h11
              exact RRet.mk rfl .bool (by decide)
          · have h12 := iteBT h4 hb
            refine rl.done ?_
            refine RW.keep [2, 3, 29] (a' := [(2, .ptr 0 0), (3, .ptr 1 0), (29, .bool true)]) (H' := [some ⟨[.int .i64 x0.Kind, .int .i64 x0.Valid, .int .i64 x0.Uid, .int .i64 x0.Next, .int .i64 x0.Flags, .str x0.User, .str x0.Name, .str x0.Text], 0⟩, some ⟨[.int .i64 x1.Kind, .int .i64 x1.Valid, .int .i64 x1.Uid, .int .i64 x1.Next, .int .i64 x1.Flags, .str x1.User, .str x1.Name, .str x1.Text], 0⟩]) rfl rfl ?_
            refine RW.cond_t rfl ?_
            refine RW.sreg ?_
            refine rl.run 1 rfl ?_
            refine rl.done ?_
            refine RW.ret ?_
            cases h12
            exact RRet.mk rfl .bool (by decide)
        · have h13 := iteBT h3 hb
          refine rl.done ?_
          refine RW.cond_t rfl ?_
          refine RW.sreg ?_
          refine rl.run 1 rfl ?_
          refine rl.done ?_
          refine RW.keep [4] (a' := [(4, .bool false)]) (H' := [some ⟨[.int .i64 x0.Kind, .int .i64 x0.Valid, .int .i64 x0.Uid, .int .i64 x0.Next, .int .i64 x0.Flags, .str x0.User, .str x0.Name, .str x0.Text], 0⟩, some ⟨[.int .i64 x1.Kind, .int .i64 x1.Valid, .int .i64 x1.Uid, .int .i64 x1.Next, .int .i64 x1.Flags, .str x1.User, .str x1.Name, .str x1.Text], 0⟩]) rfl rfl ?_
          refine RW.ret ?_
          cases h13
          exact RRet.mk rfl .bool (by decide)
      · have h14 := iteBT h2 hb
        refine rl.done ?_
        refine RW.cond_t rfl ?_
        refine RW.sreg ?_
        refine rl.run 1 rfl ?_
        refine rl.done ?_
        refine RW.ret ?_
        cases h14
        exact RRet.mk rfl .bool (by decide)
    · have h15 := iteBT h1 hb
      refine rl.done ?_
      refine RW.keep [2, 3, 14] (a' := [(2, .ptr 0 0), (3, .ptr 1 0), (14, .bool true)]) (H' := [some ⟨[.int .i64 x0.Kind, .int .i64 x0.Valid, .int .i64 x0.Uid, .int .i64 x0.Next, .int .i64 x0.Flags, .str x0.User, .str x0.Name, .str x0.Text], 0⟩, some ⟨[.int .i64 x1.Kind, .int .i64 x1.Valid, .int .i64 x1.Uid, .int .i64 x1.Next, .int .i64 x1.Flags, .str x1.User, .str x1.Name, .str x1.Text], 0⟩]) rfl rfl ?_
      refine RW.cond_t rfl ?_
      refine RW.sreg ?_
      refine rl.run 1 rfl ?_
      refine rl.done ?_
      refine RW.ret ?_
      cases h15
      exact RRet.mk rfl .bool (by decide)
  · have h16 := iteBT hF hb
    refine rl.done ?_
    refine RW.cond_t rfl ?_
    refine RW.sreg ?_
    refine rl.run 1 rfl ?_
    refine rl.done ?_
    refine RW.ret ?_
    cases h16
    exact RRet.mk rfl .bool (by decide)
theorem law_laws_eqItem {x0 : TItem} {x1 : TItem} {r : Bool} (hF : F_laws_eqItem x0 x1 = some r) : PCalls Try.prog 51 [.agg (enc_TItem false x0), .agg (enc_TItem false x1)] (.bool r) := by
  refine PCalls.of_r k_laws_eqItem rfl ?_
  unfold F_laws_eqItem at hF
  refine RW.sreg ?_
  refine rl.run 3 rfl ?_
  refine rl.done ?_
  refine RW.seq ?_
  refine RW.sreg ?_
  refine rl.run 4 rfl ?_
  refine rl.gen rfl rfl fun b hb => ?_
  cases b
  · have h1 := iteBF hF hb
    refine rl.done ?_
    refine RW.cond_f rfl ?_
    refine RW.skip ?_
    refine RW.seq ?_
    refine RW.sreg ?_
    refine rl.run 4 rfl ?_
    obtain ⟨v1, e1, h2⟩ := bindS h1
    refine rl.call rfl rfl rfl (CallW.val (r' := .bool v1) ok_laws_eqRec (law_laws_eqRec e1) (.cons (DFL.agg (.cons .int (.cons .int (.cons .int (.cons .int (.cons .int (.cons .str (.cons .str (.cons .str .nil))))))))) (.cons (DFL.agg (.cons .int (.cons .int (.cons .int (.cons .int (.cons .int (.cons .str (.cons .str (.cons .str .nil))))))))) .nil)) .refl ?_)
    cases hb : v1
    · have h3 := iteBF h2 hb
      refine rl.run 1 rfl ?_
      refine rl.done ?_
      refine RW.keep [15] (a' := [(15, .bool true)]) (H' := [some ⟨[.int .i64 x0.Seq, .int .i64 x0.Rec.Kind, .int .i64 x0.Rec.Valid, .int .i64 x0.Rec.Uid, .int .i64 x0.Rec.Next, .int .i64 x0.Rec.Flags, .str x0.Rec.User, .str x0.Rec.Name, .str x0.Rec.Text], 0⟩, some ⟨[.int .i64 x1.Seq, .int .i64 x1.Rec.Kind, .int .i64 x1.Rec.Valid, .int .i64 x1.Rec.Uid, .int .i64 x1.Rec.Next, .int .i64 x1.Rec.Flags, .str x1.Rec.User, .str x1.Rec.Name, .str x1.Rec.Text], 0⟩]) rfl rfl ?_
      refine RW.cond_t rfl ?_
      refine RW.sreg ?_
      refine rl.run 1 rfl ?_
      refine rl.done ?_
      refine RW.ret ?_
      cases h3
      exact RRet.mk rfl .bool (by decide)
    · have h4 := iteBT h2 hb
      refine rl.run 1 rfl ?_
      refine rl.done ?_
      refine RW.keep [15] (a' := [(15, .bool false)]) (H' := [some ⟨[.int .i64 x0.Seq, .int .i64 x0.Rec.Kind, .int .i64 x0.Rec.Valid, .int .i64 x0.Rec.Uid, .int .i64 x0.Rec.Next, .int .i64 x0.Rec.Flags, .str x0.Rec.User, .str x0.Rec.Name, .str x0.Rec.Text], 0⟩, some ⟨[.int .i64 x1.Seq, .int .i64 x1.Rec.Kind, .int .i64 x1.Rec.Valid, .int .i64 x1.Rec.Uid, .int .i64 x1.Rec.Next, .int .i64 x1.Rec.Flags, .str x1.Rec.User, .str x1.Rec.Name, .str x1.Rec.Text], 0⟩]) rfl rfl ?_
      refine RW.cond_f rfl ?_
      refine RW.skip ?_
      refine RW.sreg ?_
      refine rl.run 1 rfl ?_
      refine rl.done ?_
      refine RW.ret ?_
      cases h4
      exact RRet.mk rfl .bool (by decide)
  · have h5 := iteBT hF hb
    refine rl.done ?_
    refine RW.cond_t rfl ?_
    refine RW.sreg ?_
    refine rl.run 1 rfl ?_
    refine rl.done ?_
    refine RW.ret ?_
    cases h5
    exact RRet.mk rfl .bool (by decide)
theorem law_laws_eqItemS {x0 : List TItem} {x1 : List TItem} {r : Bool} (hF : F_laws_eqItemS x0 x1 = some r) : PCalls Try.prog 21 [.lst false 9 (fl (enc_TItem false) x0) x0.length, .lst false 9 (fl (enc_TItem false) x1) x1.length] (.bool r) := by
  refine PCalls.of_r k_laws_eqItemS rfl ?_
  unfold F_laws_eqItemS at hF
  refine RW.sreg ?_
  refine rl.run 1 rfl ?_
  refine rl.done ?_
  refine RW.seq ?_
  refine RW.sreg ?_
  refine rl.run 4 rfl ?_
  refine rl.gen rfl rfl fun b hb => ?_
  cases b
  · have h1 := iteBF hF hb
    refine rl.done ?_
    refine RW.cond_f rfl ?_
    refine RW.skip ?_
    refine RW.seq ?_
    refine RW.sreg ?_
    refine rl.run 1 rfl ?_
    refine rl.done ?_
    obtain ⟨y6, ey6, h3⟩ := bindS h1
    refine RW.cutq (σ := Unit) (fun y2 => []) (fun y2 => []) (fun y => y6 = .inr y) (fun _ _ _ _ g h => RW.gh g h) ?_ ?_
    · refine RW.blk ?_
      refine RW.iter (σ := Int) ey6 (fun s1 => [(0, .lst false 9 (fl (enc_TItem false) x0) x0.length), (1, .lst false 9 (fl (enc_TItem false) x1) x1.length), (5, .int .i64 s1)]) (fun s1 => []) (Gh.ren0 [] .nil rfl (.cons rfl (.dat (ek_TItem.rlst)) (.cons rfl (.dat (ek_TItem.rlst)) (.cons rfl (.dat .int) .nil)))) (fun s1 B o hS2 hB2 hE2 => ?_)
      unfold S_laws_eqItemS_1 at hS2
      refine RW.seq ?_
      refine RW.sreg ?_
      refine rl.run 3 rfl ?_
      refine rl.gen rfl rfl fun b hb => ?_
      cases b
      · have h4 := iteBF hS2 hb
        refine rl.done ?_
        refine RW.cond_f rfl ?_
        refine RW.exit ?_
        refine blkA_eq ?_
        cases h4
        exact ⟨_, (hE2 _ rfl).symm, (Gh.ren0 [] .nil rfl .nil)⟩
      · have h5 := iteBT hS2 hb
        refine rl.done ?_
        refine RW.cond_t rfl ?_
        refine RW.skip ?_
        refine RW.seq ?_
        refine RW.blk ?_
        refine RW.sdrw ?_
        refine rdraw.op rfl rfl ?_
        refine rdraw.op rfl rfl ?_
        obtain ⟨v3, e3, h6⟩ := bindS h5
        refine rdraw.op rfl (x_ia_lst (enc := enc_TItem) (o := false) rfl rfl rfl e3) ?_
        refine rdraw.op rfl (x_ld_ela (off' := 0) (vs := (enc_TItem false v3)) ek_TItem rfl e3 rfl rfl rfl) ?_
        refine rdraw.op rfl rfl ?_
        refine rdraw.op rfl rfl ?_
        obtain ⟨v4, e4, h7⟩ := bindS h6
        refine rdraw.op rfl (x_ia_lst (enc := enc_TItem) (o := false) rfl rfl rfl e4) ?_
        refine rdraw.op rfl (x_ld_ela (off' := 0) (vs := (enc_TItem false v4)) ek_TItem rfl e4 rfl rfl rfl) ?_
        obtain ⟨v5, e5, h8⟩ := bindS h7
        refine rdraw.call rfl rfl rfl (CallW.val (r' := .bool v5) ok_laws_eqItem (law_laws_eqItem e5) (.cons (.dat (.agg (ek_TItem.dat false _))) (.cons (.dat (.agg (ek_TItem.dat false _))) .nil)) .refl ⟨rfl, ?_⟩)
        cases hb : v5
        · have h9 := iteBF h8 hb
          refine rdraw.op rfl rfl ?_
          refine rdraw.done ?_
          refine RW.keep [0, 1, 5, 26] (a' := [(0, .lst false 9 (fl (enc_TItem false) x0) x0.length), (1, .lst false 9 (fl (enc_TItem false) x1) x1.length), (5, .int .i64 s1), (26, .bool true)]) (H' := []) rfl rfl ?_
          refine RW.cond_t rfl ?_
          refine RW.sreg ?_
          refine rl.run 1 rfl ?_
          refine rl.done ?_
          refine RW.ret ?_
          cases h9
          have h10 := elimL h3 (hE2 _ rfl)
          cases h10
          exact RRet.mk rfl .bool (by decide)
        · have h11 := iteBT h8 hb
          refine rdraw.op rfl rfl ?_
          refine rdraw.done ?_
          refine RW.keep [0, 1, 5, 26] (a' := [(0, .lst false 9 (fl (enc_TItem false) x0) x0.length), (1, .lst false 9 (fl (enc_TItem false) x1) x1.length), (5, .int .i64 s1), (26, .bool false)]) (H' := []) rfl rfl ?_
          refine RW.cond_f rfl ?_
          refine RW.skip ?_
          refine RW.reg ?_
          refine rl.run 3 rfl ?_
          refine rl.done ?_
          cases h11
          exact hB2 _ rfl _ _ (Gh.ren0 [] .nil rfl (.cons rfl (.dat (ek_TItem.rlst)) (.cons rfl (.dat (ek_TItem.rlst)) (.cons rfl (.dat .int) .nil))))
    · intro y2 hC
      have h3 := elimR h3 hC
      refine RW.sreg ?_
      refine rl.run 1 rfl ?_
      refine rl.done ?_
      refine RW.ret ?_
      cases h3
      exact RRet.mk rfl .bool (by decide)
  · have h12 := iteBT hF hb
    refine rl.done ?_
    refine RW.cond_t rfl ?_
    refine RW.sreg ?_
    refine rl.run 1 rfl ?_
    refine rl.done ?_
    refine RW.ret ?_
    cases h12
    exact RRet.mk rfl .bool (by decide)
theorem law_laws_eqBoolS {x0 : List Bool} {x1 : List Bool} {r : Bool} (hF : F_laws_eqBoolS x0 x1 = some r) : PCalls Try.prog 22 [.lst false 1 (fl (encO false) x0) x0.length, .lst false 1 (fl (encO false) x1) x1.length] (.bool r) := by
  refine PCalls.of_r k_laws_eqBoolS rfl ?_
  unfold F_laws_eqBoolS at hF
  refine RW.sreg ?_
  refine rl.run 1 rfl ?_
  refine rl.done ?_
  refine RW.seq ?_
  refine RW.sreg ?_
  refine rl.run 4 rfl ?_
  refine rl.gen rfl rfl fun b hb => ?_
  cases b
  · have h1 := iteBF hF hb
    refine rl.done ?_
    refine RW.cond_f rfl ?_
    refine RW.skip ?_
    refine RW.seq ?_
    refine RW.sreg ?_
    refine rl.run 1 rfl ?_
    refine rl.done ?_
    obtain ⟨y5, ey5, h3⟩ := bindS h1
    refine RW.cutq (σ := Unit) (fun y2 => []) (fun y2 => []) (fun y => y5 = .inr y) (fun _ _ _ _ g h => RW.gh g h) ?_ ?_
    · refine RW.blk ?_
      refine RW.iter (σ := Int) ey5 (fun s1 => [(0, .lst false 1 (fl (encO false) x0) x0.length), (1, .lst false 1 (fl (encO false) x1) x1.length), (5, .int .i64 s1)]) (fun s1 => []) (Gh.ren0 [] .nil rfl (.cons rfl (.dat (ekO.rlst)) (.cons rfl (.dat (ekO.rlst)) (.cons rfl (.dat .int) .nil)))) (fun s1 B o hS2 hB2 hE2 => ?_)
      unfold S_laws_eqBoolS_1 at hS2
      refine RW.seq ?_
      refine RW.sreg ?_
      refine rl.run 3 rfl ?_
      refine rl.gen rfl rfl fun b hb => ?_
      cases b
      · have h4 := iteBF hS2 hb
        refine rl.done ?_
        refine RW.cond_f rfl ?_
        refine RW.exit ?_
        refine blkA_eq ?_
        cases h4
        exact ⟨_, (hE2 _ rfl).symm, (Gh.ren0 [] .nil rfl .nil)⟩
      · have h5 := iteBT hS2 hb
        refine rl.done ?_
        refine RW.cond_t rfl ?_
        refine RW.skip ?_
        refine RW.seq ?_
        refine RW.blk ?_
        refine RW.sdrw ?_
        refine rdraw.op rfl rfl ?_
        refine rdraw.op rfl rfl ?_
        obtain ⟨v3, e3, h6⟩ := bindS h5
        refine rdraw.op rfl (x_ia_lst (enc := encO) (o := false) rfl rfl rfl e3) ?_
        refine rdraw.op rfl (x_ld_el (off' := 0) ekO rfl e3 rfl rfl rfl) ?_
        refine rdraw.op rfl rfl ?_
        refine rdraw.op rfl rfl ?_
        obtain ⟨v4, e4, h7⟩ := bindS h6
        refine rdraw.op rfl (x_ia_lst (enc := encO) (o := false) rfl rfl rfl e4) ?_
        refine rdraw.op rfl (x_ld_el (off' := 0) ekO rfl e4 rfl rfl rfl) ?_
        refine rdraw.gen rfl rfl fun b hb => ?_
        cases b
        · have h8 := iteBF h7 hb
          refine rdraw.done ?_
          refine RW.keep [0, 1, 5, 25] (a' := [(0, .lst false 1 (fl (encO false) x0) x0.length), (1, .lst false 1 (fl (encO false) x1) x1.length), (5, .int .i64 s1), (25, .bool false)]) (H' := []) rfl rfl ?_
          refine RW.cond_f rfl ?_
          refine RW.skip ?_
          refine RW.reg ?_
          refine rl.run 3 rfl ?_
          refine rl.done ?_
          cases h8
          exact hB2 _ rfl _ _ (Gh.ren0 [] .nil rfl (.cons rfl (.dat (ekO.rlst)) (.cons rfl (.dat (ekO.rlst)) (.cons rfl (.dat .int) .nil))))
        · have h9 := iteBT h7 hb
          refine rdraw.done ?_
          refine RW.keep [0, 1, 5, 25] (a' := [(0, .lst false 1 (fl (encO false) x0) x0.length), (1, .lst false 1 (fl (encO false) x1) x1.length), (5, .int .i64 s1), (25, .bool true)]) (H' := []) rfl rfl ?_
          refine RW.cond_t rfl ?_
          refine RW.sreg ?_
          refine rl.run 1 rfl ?_
          refine rl.done ?_
          refine RW.ret ?_
          cases h9
          have h10 := elimL h3 (hE2 _ rfl)
          cases h10
          exact RRet.mk rfl .bool (by decide)
    · intro y2 hC
      have h3 := elimR h3 hC
      refine RW.sreg ?_
      refine rl.run 1 rfl ?_
      refine rl.done ?_
      refine RW.ret ?_
      cases h3
      exact RRet.mk rfl .bool (by decide)
  · have h11 := iteBT hF hb
    refine rl.done ?_
    refine RW.cond_t rfl ?_
    refine RW.sreg ?_
    refine rl.run 1 rfl ?_
    refine rl.done ?_
    refine RW.ret ?_
    cases h11
    exact RRet.mk rfl .bool (by decide)
theorem law_laws_markText {x0 : Int} {r : List UInt8} (hF : F_laws_markText x0 = some r) : PCalls Try.prog 52 [.int .i64 x0] (.str r) := by
  refine PCalls.of_r k_laws_markText rfl ?_
  unfold F_laws_markText at hF
  refine RW.sreg ?_
  refine rl.run 1 rfl ?_
  refine rl.done ?_
  refine RW.seq ?_
  refine RW.sreg ?_
  refine rl.run 1 rfl ?_
  refine rl.gen rfl rfl fun b hb => ?_
  cases b
  · have h1 := iteBF hF hb
    refine rl.done ?_
    refine RW.cond_f rfl ?_
    refine RW.skip ?_
    refine RW.sreg ?_
    refine rl.run 1 rfl ?_
    refine rl.done ?_
    refine RW.seq ?_
    obtain ⟨y4, ey4, h3⟩ := bindS h1
    refine RW.cutq (σ := (List UInt8)) (fun y2 => [(3, .str y2)]) (fun y2 => []) (fun y => y4 = y) (fun _ _ _ _ g h => RW.gh g h) ?_ ?_
    · refine RW.blk ?_
      refine RW.iter (σ := Int × (List UInt8)) ey4 (fun s1 => [(0, .int .i64 s1.1), (3, .str s1.2)]) (fun s1 => []) (Gh.ren0 [] .nil rfl (.cons rfl (.dat .int) (.cons rfl (.dat .str) .nil))) (fun s1 B o hS2 hB2 hE2 => ?_)
      unfold S_laws_markText_1 at hS2
      refine RW.seq ?_
      refine RW.sreg ?_
      refine rl.run 1 rfl ?_
      refine rl.gen rfl rfl fun b hb => ?_
      cases b
      · have h4 := iteBF hS2 hb
        refine rl.done ?_
        refine RW.cond_f rfl ?_
        refine RW.exit ?_
        refine blkA_eq ?_
        cases h4
        exact ⟨_, (hE2 _ rfl).symm, (Gh.ren0 [] .nil rfl (.cons rfl (.dat .str) .nil))⟩
      · have h5 := iteBT hS2 hb
        refine rl.done ?_
        refine RW.cond_t rfl ?_
        refine RW.skip ?_
        refine RW.blk ?_
        refine RW.sreg ?_
        refine rl.run 5 rfl ?_
        refine rl.op (x_cvb_sl (o := true) (l := [IntKind.u8.wrap (w64 (48 + (Int.tmod s1.1 10)))]) rfl rfl) ?_
        refine rl.run 1 rfl ?_
        obtain ⟨v3, e3, h6⟩ := bindS h5
        refine rl.op (x_cat rfl rfl e3) ?_
        refine rl.run 1 rfl ?_
        refine rl.done ?_
        refine RW.reg ?_
        refine rl.run 3 rfl ?_
        refine rl.done ?_
        cases h6
        exact hB2 _ rfl _ _ (Gh.ren0 [] .nil rfl (.cons rfl (.dat .int) (.cons rfl (.dat .str) .nil)))
    · intro y2 hC
      subst hC
      refine RW.sreg ?_
      refine rl.run 1 rfl ?_
      obtain ⟨v5, e5, h7⟩ := bindS h3
      refine rl.op (x_cat rfl rfl e5) ?_
      refine rl.run 1 rfl ?_
      refine rl.done ?_
      refine RW.ret ?_
      cases h7
      exact RRet.mk rfl .str (by decide)
  · have h8 := iteBT hF hb
    refine rl.done ?_
    refine RW.cond_t rfl ?_
    refine RW.sreg ?_
    refine rl.run 1 rfl ?_
    refine rl.done ?_
    refine RW.ret ?_
    cases h8
    exact RRet.mk rfl .str (by decide)
theorem law_laws_markItemS_w {x0 : List TItem} {x1 : Int} {r : Int × (List TItem)} (hF : F_laws_markItemS_w x0 x1 = some r) : ACalls Try.prog 0 23 [.sl 0 0 x0.length, .int .i64 x1] [some ⟨fl (enc_TItem true) x0, 9⟩] (.int .i64 r.1) [some ⟨fl (enc_TItem true) r.2, 9⟩] := by
  refine ACalls.of_s k_laws_markItemS rfl ?_
  unfold F_laws_markItemS_w at hF
  refine RW.sreg ?_
  refine rl.run 1 rfl ?_
  refine rl.done ?_
  refine RW.seq ?_
  refine RW.sreg ?_
  refine rl.run 1 rfl ?_
  refine rl.done ?_
  obtain ⟨y24, ey24, h2⟩ := bindS hF
  refine RW.cutq (σ := Int × (List TItem)) (fun y2 => [(1, .int .i64 y2.1)]) (fun y2 => [some ⟨fl (enc_TItem true) y2.2, 9⟩]) (fun y => y24 = y) (fun _ _ _ _ g h => RW.gh g h) ?_ ?_
  · refine RW.blk ?_
    refine RW.iter (σ := Int × Int × (List TItem)) ey24 (fun s1 => [(0, .sl 0 0 s1.2.2.length), (1, .int .i64 s1.1), (5, .int .i64 s1.2.1)]) (fun s1 => [some ⟨fl (enc_TItem true) s1.2.2, 9⟩]) (Gh.renN [0] (.same rfl (ek_TItem.fref _ _) .nil) rfl rfl rfl (.cons rfl (.slq rfl rfl) (.cons rfl (.dat .int) (.cons rfl (.dat .int) .nil)))) (fun s1 B o hS1 hB1 hE1 => ?_)
    unfold S_laws_markItemS_w_1 at hS1
    refine RW.seq ?_
    refine RW.sreg ?_
    refine rl.run 3 rfl ?_
    refine rl.gen rfl rfl fun b hb => ?_
    cases b
    · have h3 := iteBF hS1 hb
      refine rl.done ?_
      refine RW.cond_f rfl ?_
      refine RW.exit ?_
      refine blkA_eq ?_
      cases h3
      exact ⟨_, (hE1 _ rfl).symm, (Gh.renN [0] (.same rfl (ek_TItem.fref _ _) .nil) rfl rfl rfl (.cons rfl (.dat .int) .nil))⟩
    · have h4 := iteBT hS1 hb
      refine rl.done ?_
      refine RW.cond_t rfl ?_
      refine RW.skip ?_
      refine RW.seq ?_
      refine RW.blk ?_
      refine RW.sreg ?_
      refine rl.run 3 rfl ?_
      obtain ⟨v3, e3, h5⟩ := bindS h4
      refine rl.op (x_ia_sl rfl rfl rfl rfl e3) ?_
      refine rl.run 1 rfl ?_
      obtain ⟨v4, e4, h6⟩ := bindS h5
      refine rl.op0 (x_st_sl' (off' := 0) (o := true) (e' := ({ Seq := s1.1, Rec := v3.Rec } : TItem)) ek_TItem e3 rfl rfl rfl rfl rfl rfl rfl rfl rfl e4) ?_
      refine rl.done ?_
      refine RW.sreg ?_
      refine rl.run 3 rfl ?_
      refine rl.done ?_
      refine RW.keep [0, 1, 5] (a' := [(0, .sl 0 0 s1.2.2.length), (1, .int .i64 (w64 (s1.1 + 1))), (5, .int .i64 s1.2.1)]) (H' := [some ⟨fl (enc_TItem true) v4, 9⟩]) rfl rfl ?_
      refine RW.sreg ?_
      refine rl.run 3 rfl ?_
      obtain ⟨v5, e5, h7⟩ := bindS h6
      refine rl.op (x_ia_sl rfl rfl rfl (set'_len e4) e5) ?_
      refine rl.run 2 rfl ?_
      obtain ⟨v6, e6, h8⟩ := bindS h7
      refine rl.op0 (x_st_sl' (off' := 1) (o := true) (e' := ({ Seq := v5.Seq, Rec := ({ Kind := w64 (s1.1 + 1), Valid := v5.Rec.Valid, Uid := v5.Rec.Uid, Next := v5.Rec.Next, Flags := v5.Rec.Flags, User := v5.Rec.User, Name := v5.Rec.Name, Text := v5.Rec.Text } : TRec) } : TItem)) ek_TItem e5 rfl rfl rfl rfl rfl rfl rfl rfl rfl e6) ?_
      refine rl.done ?_
      refine RW.sreg ?_
      refine rl.run 3 rfl ?_
      refine rl.done ?_
      refine RW.sreg ?_
      refine rl.run 3 rfl ?_
      obtain ⟨v7, e7, h9⟩ := bindS h8
      refine rl.op (x_ia_sl rfl rfl rfl ((set'_len e4).trans (set'_len e6)) e7) ?_
      refine rl.run 2 rfl ?_
      obtain ⟨v8, e8, h10⟩ := bindS h9
      refine rl.op0 (x_st_sl' (off' := 2) (o := true) (e' := ({ Seq := v7.Seq, Rec := ({ Kind := v7.Rec.Kind, Valid := w64 ((w64 (s1.1 + 1)) + 1), Uid := v7.Rec.Uid, Next := v7.Rec.Next, Flags := v7.Rec.Flags, User := v7.Rec.User, Name := v7.Rec.Name, Text := v7.Rec.Text } : TRec) } : TItem)) ek_TItem e7 rfl rfl rfl rfl rfl rfl rfl rfl rfl e8) ?_
      refine rl.done ?_
      refine RW.keep [0, 1, 5] (a' := [(0, .sl 0 0 s1.2.2.length), (1, .int .i64 (w64 ((w64 (s1.1 + 1)) + 1))), (5, .int .i64 s1.2.1)]) (H' := [some ⟨fl (enc_TItem true) v8, 9⟩]) rfl rfl ?_
      refine RW.sreg ?_
      refine rl.run 3 rfl ?_
      refine rl.done ?_
      refine RW.sreg ?_
      refine rl.run 3 rfl ?_
      obtain ⟨v9, e9, h11⟩ := bindS h10
      refine rl.op (x_ia_sl rfl rfl rfl (((set'_len e4).trans (set'_len e6)).trans (set'_len e8)) e9) ?_
      refine rl.run 2 rfl ?_
      obtain ⟨v10, e10, h12⟩ := bindS h11
      refine rl.op0 (x_st_sl' (off' := 3) (o := true) (e' := ({ Seq := v9.Seq, Rec := ({ Kind := v9.Rec.Kind, Valid := v9.Rec.Valid, Uid := w64 ((w64 ((w64 (s1.1 + 1)) + 1)) + 1), Next := v9.Rec.Next, Flags := v9.Rec.Flags, User := v9.Rec.User, Name := v9.Rec.Name, Text := v9.Rec.Text } : TRec) } : TItem)) ek_TItem e9 rfl rfl rfl rfl rfl rfl rfl rfl rfl e10) ?_
      refine rl.done ?_
      refine RW.sreg ?_
      refine rl.run 3 rfl ?_
      refine rl.done ?_
      refine RW.sreg ?_
      refine rl.run 3 rfl ?_
      obtain ⟨v11, e11, h13⟩ := bindS h12
      refine rl.op (x_ia_sl rfl rfl rfl ((((set'_len e4).trans (set'_len e6)).trans (set'_len e8)).trans (set'_len e10)) e11) ?_
      refine rl.run 2 rfl ?_
      obtain ⟨v12, e12, h14⟩ := bindS h13
      refine rl.op0 (x_st_sl' (off' := 4) (o := true) (e' := ({ Seq := v11.Seq, Rec := ({ Kind := v11.Rec.Kind, Valid := v11.Rec.Valid, Uid := v11.Rec.Uid, Next := w64 ((w64 ((w64 ((w64 (s1.1 + 1)) + 1)) + 1)) + 1), Flags := v11.Rec.Flags, User := v11.Rec.User, Name := v11.Rec.Name, Text := v11.Rec.Text } : TRec) } : TItem)) ek_TItem e11 rfl rfl rfl rfl rfl rfl rfl rfl rfl e12) ?_
      refine rl.done ?_
      refine RW.keep [0, 1, 5] (a' := [(0, .sl 0 0 s1.2.2.length), (1, .int .i64 (w64 ((w64 ((w64 ((w64 (s1.1 + 1)) + 1)) + 1)) + 1))), (5, .int .i64 s1.2.1)]) (H' := [some ⟨fl (enc_TItem true) v12, 9⟩]) rfl rfl ?_
      refine RW.sreg ?_
      refine rl.run 3 rfl ?_
      refine rl.done ?_
      refine RW.sreg ?_
      refine rl.run 3 rfl ?_
      obtain ⟨v13, e13, h15⟩ := bindS h14
      refine rl.op (x_ia_sl rfl rfl rfl (((((set'_len e4).trans (set'_len e6)).trans (set'_len e8)).trans (set'_len e10)).trans (set'_len e12)) e13) ?_
      refine rl.run 2 rfl ?_
      obtain ⟨v14, e14, h16⟩ := bindS h15
      refine rl.op0 (x_st_sl' (off' := 5) (o := true) (e' := ({ Seq := v13.Seq, Rec := ({ Kind := v13.Rec.Kind, Valid := v13.Rec.Valid, Uid := v13.Rec.Uid, Next := v13.Rec.Next, Flags := w64 ((w64 ((w64 ((w64 ((w64 (s1.1 + 1)) + 1)) + 1)) + 1)) + 1), User := v13.Rec.User, Name := v13.Rec.Name, Text := v13.Rec.Text } : TRec) } : TItem)) ek_TItem e13 rfl rfl rfl rfl rfl rfl rfl rfl rfl e14) ?_
      refine rl.done ?_
      refine RW.sreg ?_
      refine rl.run 3 rfl ?_
      refine rl.done ?_
      refine RW.sreg ?_
      refine rl.run 3 rfl ?_
      obtain ⟨v15, e15, h17⟩ := bindS h16
      refine rl.call rfl rfl rfl (CallW.val (r' := .str v15) ok_laws_markText (law_laws_markText e15) (.cons .int .nil) .refl ?_)
      obtain ⟨v16, e16, h18⟩ := bindS h17
      refine rl.op (x_ia_sl rfl rfl rfl ((((((set'_len e4).trans (set'_len e6)).trans (set'_len e8)).trans (set'_len e10)).trans (set'_len e12)).trans (set'_len e14)) e16) ?_
      refine rl.run 2 rfl ?_
      obtain ⟨v17, e17, h19⟩ := bindS h18
      refine rl.op0 (x_st_sl' (off' := 6) (o := true) (e' := ({ Seq := v16.Seq, Rec := ({ Kind := v16.Rec.Kind, Valid := v16.Rec.Valid, Uid := v16.Rec.Uid, Next := v16.Rec.Next, Flags := v16.Rec.Flags, User := v15, Name := v16.Rec.Name, Text := v16.Rec.Text } : TRec) } : TItem)) ek_TItem e16 rfl rfl rfl rfl rfl rfl rfl rfl rfl e17) ?_
      refine rl.done ?_
      refine RW.keep [0, 1, 5] (a' := [(0, .sl 0 0 s1.2.2.length), (1, .int .i64 (w64 ((w64 ((w64 ((w64 ((w64 ((w64 (s1.1 + 1)) + 1)) + 1)) + 1)) + 1)) + 1))), (5, .int .i64 s1.2.1)]) (H' := [some ⟨fl (enc_TItem true) v17, 9⟩]) rfl rfl ?_
      refine RW.sreg ?_
      refine rl.run 3 rfl ?_
      refine rl.done ?_
      refine RW.sreg ?_
      refine rl.run 3 rfl ?_
      obtain ⟨v18, e18, h20⟩ := bindS h19
      refine rl.call rfl rfl rfl (CallW.val (r' := .str v18) ok_laws_markText (law_laws_markText e18) (.cons .int .nil) .refl ?_)
      obtain ⟨v19, e19, h21⟩ := bindS h20
      refine rl.op (x_ia_sl rfl rfl rfl (((((((set'_len e4).trans (set'_len e6)).trans (set'_len e8)).trans (set'_len e10)).trans (set'_len e12)).trans (set'_len e14)).trans (set'_len e17)) e19) ?_
      refine rl.run 2 rfl ?_
      obtain ⟨v20, e20, h22⟩ := bindS h21
      refine rl.op0 (x_st_sl' (off' := 7) (o := true) (e' := ({ Seq := v19.Seq, Rec := ({ Kind := v19.Rec.Kind, Valid := v19.Rec.Valid, Uid := v19.Rec.Uid, Next := v19.Rec.Next, Flags := v19.Rec.Flags, User := v19.Rec.User, Name := v18, Text := v19.Rec.Text } : TRec) } : TItem)) ek_TItem e19 rfl rfl rfl rfl rfl rfl rfl rfl rfl e20) ?_
      refine rl.done ?_
      refine RW.sreg ?_
      refine rl.run 3 rfl ?_
      refine rl.done ?_
      refine RW.keep [0, 1, 5] (a' := [(0, .sl 0 0 s1.2.2.length), (1, .int .i64 (w64 ((w64 ((w64 ((w64 ((w64 ((w64 ((w64 ((w64 (s1.1 + 1)) + 1)) + 1)) + 1)) + 1)) + 1)) + 1)) + 1))), (5, .int .i64 s1.2.1)]) (H' := [some ⟨fl (enc_TItem true) v20, 9⟩]) rfl rfl ?_
      refine RW.sreg ?_
      refine rl.run 3 rfl ?_
      obtain ⟨v21, e21, h23⟩ := bindS h22
      refine rl.call rfl rfl rfl (CallW.val (r' := .str v21) ok_laws_markText (law_laws_markText e21) (.cons .int .nil) .refl ?_)
      obtain ⟨v22, e22, h24⟩ := bindS h23
      refine rl.op (x_ia_sl rfl rfl rfl ((((((((set'_len e4).trans (set'_len e6)).trans (set'_len e8)).trans (set'_len e10)).trans (set'_len e12)).trans (set'_len e14)).trans (set'_len e17)).trans (set'_len e20)) e22) ?_
      refine rl.run 2 rfl ?_
      obtain ⟨v23, e23, h25⟩ := bindS h24
      refine rl.op0 (x_st_sl' (off' := 8) (o := true) (e' := ({ Seq := v22.Seq, Rec := ({ Kind := v22.Rec.Kind, Valid := v22.Rec.Valid, Uid := v22.Rec.Uid, Next := v22.Rec.Next, Flags := v22.Rec.Flags, User := v22.Rec.User, Name := v22.Rec.Name, Text := v21 } : TRec) } : TItem)) ek_TItem e22 rfl rfl rfl rfl rfl rfl rfl rfl rfl e23) ?_
      refine rl.done ?_
      refine RW.reg ?_
      refine rl.run 3 rfl ?_
      refine rl.done ?_
      refine RW.reg ?_
      refine rl.run 3 rfl ?_
      refine rl.done ?_
      cases h25
      exact hB1 _ rfl _ _ (Gh.renN [0] (.same rfl (ek_TItem.fref _ _) .nil) rfl rfl rfl (.cons rfl (.slq rfl (((((((((set'_len e4).trans (set'_len e6)).trans (set'_len e8)).trans (set'_len e10)).trans (set'_len e12)).trans (set'_len e14)).trans (set'_len e17)).trans (set'_len e20)).trans (set'_len e23))) (.cons rfl (.dat .int) (.cons rfl (.dat .int) .nil))))
  · intro y2 hC
    subst hC
    refine RW.sreg ?_
    refine rl.run 2 rfl ?_
    refine rl.done ?_
    refine RW.ret ?_
    cases h2
    exact RRetS.mk rfl .int (Gh.renN [0] (.same rfl (ek_TItem.fref _ _) .nil) rfl rfl rfl .nil)
theorem law_laws_markBoolS_w {x0 : List Bool} {x1 : Int} {r : Int × (List Bool)} (hF : F_laws_markBoolS_w x0 x1 = some r) : ACalls Try.prog 0 24 [.sl 0 0 x0.length, .int .i64 x1] [some ⟨fl (encO true) x0, 1⟩] (.int .i64 r.1) [some ⟨fl (encO true) r.2, 1⟩] := by
  refine ACalls.of_s k_laws_markBoolS rfl ?_
  unfold F_laws_markBoolS_w at hF
  refine RW.sreg ?_
  refine rl.run 1 rfl ?_
  refine rl.done ?_
  refine RW.seq ?_
  refine RW.sreg ?_
  refine rl.run 1 rfl ?_
  refine rl.done ?_
  obtain ⟨y5, ey5, h2⟩ := bindS hF
  refine RW.cutq (σ := Int × (List Bool)) (fun y2 => [(1, .int .i64 y2.1)]) (fun y2 => [some ⟨fl (encO true) y2.2, 1⟩]) (fun y => y5 = y) (fun _ _ _ _ g h => RW.gh g h) ?_ ?_
  · refine RW.blk ?_
    refine RW.iter (σ := Int × Int × (List Bool)) ey5 (fun s1 => [(0, .sl 0 0 s1.2.2.length), (1, .int .i64 s1.1), (5, .int .i64 s1.2.1)]) (fun s1 => [some ⟨fl (encO true) s1.2.2, 1⟩]) (Gh.renN [0] (.same rfl (ekO.fref _ _) .nil) rfl rfl rfl (.cons rfl (.slq rfl rfl) (.cons rfl (.dat .int) (.cons rfl (.dat .int) .nil)))) (fun s1 B o hS1 hB1 hE1 => ?_)
    unfold S_laws_markBoolS_w_1 at hS1
    refine RW.seq ?_
    refine RW.sreg ?_
    refine rl.run 3 rfl ?_
    refine rl.gen rfl rfl fun b hb => ?_
    cases b
    · have h3 := iteBF hS1 hb
      refine rl.done ?_
      refine RW.cond_f rfl ?_
      refine RW.exit ?_
      refine blkA_eq ?_
      cases h3
      exact ⟨_, (hE1 _ rfl).symm, (Gh.renN [0] (.same rfl (ekO.fref _ _) .nil) rfl rfl rfl (.cons rfl (.dat .int) .nil))⟩
    · have h4 := iteBT hS1 hb
      refine rl.done ?_
      refine RW.cond_t rfl ?_
      refine RW.skip ?_
      refine RW.seq ?_
      refine RW.blk ?_
      refine RW.sreg ?_
      refine rl.run 5 rfl ?_
      obtain ⟨v3, e3, h5⟩ := bindS h4
      refine rl.op (x_ia_sl rfl rfl rfl rfl e3) ?_
      obtain ⟨v4, e4, h6⟩ := bindS h5
      refine rl.op0 (x_st_sl' (off' := 0) (o := true) (e' := ((Int.tmod s1.1 3) == 0)) ekO e3 rfl rfl rfl rfl rfl rfl rfl rfl rfl e4) ?_
      refine rl.done ?_
      refine RW.reg ?_
      refine rl.run 3 rfl ?_
      refine rl.done ?_
      refine RW.reg ?_
      refine rl.run 3 rfl ?_
      refine rl.done ?_
      cases h6
      exact hB1 _ rfl _ _ (Gh.renN [0] (.same rfl (ekO.fref _ _) .nil) rfl rfl rfl (.cons rfl (.slq rfl (set'_len e4)) (.cons rfl (.dat .int) (.cons rfl (.dat .int) .nil))))
  · intro y2 hC
    subst hC
    refine RW.sreg ?_
    refine rl.run 2 rfl ?_
    refine rl.done ?_
    refine RW.ret ?_
    cases h2
    exact RRetS.mk rfl .int (Gh.renN [0] (.same rfl (ekO.fref _ _) .nil) rfl rfl rfl .nil)
theorem law_laws_heldItemS {x0 : List TItem} {x1 : Int} {r : Int} (hF : F_laws_heldItemS x0 x1 = some r) : PCalls Try.prog 25 [.lst false 9 (fl (enc_TItem false) x0) x0.length, .int .i64 x1] (.int .i64 r) := by
  refine PCalls.of_r k_laws_heldItemS rfl ?_
  unfold F_laws_heldItemS at hF
  refine RW.sreg ?_
  refine rl.run 1 rfl ?_
  refine rl.done ?_
  refine RW.seq ?_
  refine RW.sreg ?_
  refine rl.run 1 rfl ?_
  refine rl.done ?_
  obtain ⟨y15, ey15, h2⟩ := bindS hF
  refine RW.cutq (σ := Int) (fun y2 => [(1, .int .i64 y2)]) (fun y2 => []) (fun y => y15 = .inr y) (fun _ _ _ _ g h => RW.gh g h) ?_ ?_
  · refine RW.blk ?_
    refine RW.iter (σ := Int × Int) ey15 (fun s1 => [(0, .lst false 9 (fl (enc_TItem false) x0) x0.length), (1, .int .i64 s1.1), (5, .int .i64 s1.2)]) (fun s1 => []) (Gh.ren0 [] .nil rfl (.cons rfl (.dat (ek_TItem.rlst)) (.cons rfl (.dat .int) (.cons rfl (.dat .int) .nil)))) (fun s1 B o hS1 hB1 hE1 => ?_)
    unfold S_laws_heldItemS_1 at hS1
    refine RW.seq ?_
    refine RW.sreg ?_
    refine rl.run 3 rfl ?_
    refine rl.gen rfl rfl fun b hb => ?_
    cases b
    · have h3 := iteBF hS1 hb
      refine rl.done ?_
      refine RW.cond_f rfl ?_
      refine RW.exit ?_
      refine blkA_eq ?_
      cases h3
      exact ⟨_, (hE1 _ rfl).symm, (Gh.ren0 [] .nil rfl (.cons rfl (.dat .int) .nil))⟩
    · have h4 := iteBT hS1 hb
      refine rl.done ?_
      refine RW.cond_t rfl ?_
      refine RW.skip ?_
      refine RW.seq ?_
      refine RW.blk ?_
      refine RW.seq ?_
      refine RW.sreg ?_
      refine rl.run 2 rfl ?_
      obtain ⟨v3, e3, h5⟩ := bindS h4
      refine rl.op (x_ia_lst (enc := enc_TItem) (o := false) rfl rfl rfl e3) ?_
      refine rl.run 1 rfl ?_
      refine rl.op (x_ld_el (off' := 0) ek_TItem rfl e3 rfl rfl rfl) ?_
      refine rl.run 1 rfl ?_
      refine rl.gen rfl rfl fun b hb => ?_
      cases b
      · have h6 := iteBF h5 hb
        refine rl.done ?_
        refine RW.cond_f rfl ?_
        refine RW.skip ?_
        refine RW.sreg ?_
        refine rl.run 3 rfl ?_
        refine rl.done ?_
        refine RW.keep [0, 1, 5] (a' := [(0, .lst false 9 (fl (enc_TItem false) x0) x0.length), (1, .int .i64 (w64 (s1.1 + 1))), (5, .int .i64 s1.2)]) (H' := []) rfl rfl ?_
        refine RW.seq ?_
        refine RW.sreg ?_
        refine rl.run 2 rfl ?_
        obtain ⟨v4, e4, h7⟩ := bindS h6
        refine rl.op (x_ia_lst (enc := enc_TItem) (o := false) rfl rfl rfl e4) ?_
        refine rl.run 2 rfl ?_
        refine rl.op (x_ld_el (off' := 1) ek_TItem rfl e4 rfl rfl rfl) ?_
        refine rl.run 1 rfl ?_
        refine rl.gen rfl rfl fun b hb => ?_
        cases b
        · have h8 := iteBF h7 hb
          refine rl.done ?_
          refine RW.cond_f rfl ?_
          refine RW.skip ?_
          refine RW.sreg ?_
          refine rl.run 3 rfl ?_
          refine rl.done ?_
          refine RW.seq ?_
          refine RW.sreg ?_
          refine rl.run 2 rfl ?_
          obtain ⟨v5, e5, h9⟩ := bindS h8
          refine rl.op (x_ia_lst (enc := enc_TItem) (o := false) rfl rfl rfl e5) ?_
          refine rl.run 2 rfl ?_
          refine rl.op (x_ld_el (off' := 2) ek_TItem rfl e5 rfl rfl rfl) ?_
          refine rl.run 1 rfl ?_
          refine rl.gen rfl rfl fun b hb => ?_
          cases b
          · have h10 := iteBF h9 hb
            refine rl.done ?_
            refine RW.keep [0, 1, 5, 38] (a' := [(0, .lst false 9 (fl (enc_TItem false) x0) x0.length), (1, .int .i64 (w64 ((w64 (s1.1 + 1)) + 1))), (5, .int .i64 s1.2), (38, .bool false)]) (H' := []) rfl rfl ?_
            refine RW.cond_f rfl ?_
            refine RW.skip ?_
            refine RW.sreg ?_
            refine rl.run 3 rfl ?_
            refine rl.done ?_
            refine RW.seq ?_
            refine RW.sreg ?_
            refine rl.run 2 rfl ?_
            obtain ⟨v6, e6, h11⟩ := bindS h10
            refine rl.op (x_ia_lst (enc := enc_TItem) (o := false) rfl rfl rfl e6) ?_
            refine rl.run 2 rfl ?_
            refine rl.op (x_ld_el (off' := 3) ek_TItem rfl e6 rfl rfl rfl) ?_
            refine rl.run 1 rfl ?_
            refine rl.gen rfl rfl fun b hb => ?_
            cases b
            · have h12 := iteBF h11 hb
              refine rl.done ?_
              refine RW.cond_f rfl ?_
              refine RW.skip ?_
              refine RW.sreg ?_
              refine rl.run 3 rfl ?_
              refine rl.done ?_
              refine RW.keep [0, 1, 5] (a' := [(0, .lst false 9 (fl (enc_TItem false) x0) x0.length), (1, .int .i64 (w64 ((w64 ((w64 ((w64 (s1.1 + 1)) + 1)) + 1)) + 1))), (5, .int .i64 s1.2)]) (H' := []) rfl rfl ?_
              refine RW.seq ?_
              refine RW.sreg ?_
              refine rl.run 2 rfl ?_
              obtain ⟨v7, e7, h13⟩ := bindS h12
              refine rl.op (x_ia_lst (enc := enc_TItem) (o := false) rfl rfl rfl e7) ?_
              refine rl.run 2 rfl ?_
              refine rl.op (x_ld_el (off' := 4) ek_TItem rfl e7 rfl rfl rfl) ?_
              refine rl.run 1 rfl ?_
              refine rl.gen rfl rfl fun b hb => ?_
              cases b
              · have h14 := iteBF h13 hb
                refine rl.done ?_
                refine RW.cond_f rfl ?_
                refine RW.skip ?_
                refine RW.sreg ?_
                refine rl.run 3 rfl ?_
                refine rl.done ?_
                refine RW.seq ?_
                refine RW.sreg ?_
                refine rl.run 2 rfl ?_
                obtain ⟨v8, e8, h15⟩ := bindS h14
                refine rl.op (x_ia_lst (enc := enc_TItem) (o := false) rfl rfl rfl e8) ?_
                refine rl.run 2 rfl ?_
                refine rl.op (x_ld_el (off' := 5) ek_TItem rfl e8 rfl rfl rfl) ?_
                refine rl.run 1 rfl ?_
                refine rl.gen rfl rfl fun b hb => ?_
                cases b
                · have h16 := iteBF h15 hb
                  refine rl.done ?_
                  refine RW.keep [0, 1, 5, 68] (a' := [(0, .lst false 9 (fl (enc_TItem false) x0) x0.length), (1, .int .i64 (w64 ((w64 ((w64 ((w64 ((w64 (s1.1 + 1)) + 1)) + 1)) + 1)) + 1))), (5, .int .i64 s1.2), (68, .bool false)]) (H' := []) rfl rfl ?_
                  refine RW.cond_f rfl ?_
                  refine RW.skip ?_
                  refine RW.sreg ?_
                  refine rl.run 3 rfl ?_
                  refine rl.done ?_
                  refine RW.seq ?_
                  refine RW.sdrw ?_
                  refine rdraw.op rfl rfl ?_
                  refine rdraw.op rfl rfl ?_
                  obtain ⟨v9, e9, h17⟩ := bindS h16
                  refine rdraw.op rfl (x_ia_lst (enc := enc_TItem) (o := false) rfl rfl rfl e9) ?_
                  refine rdraw.op rfl rfl ?_
                  refine rdraw.op rfl rfl ?_
                  refine rdraw.op rfl (x_ld_el (off' := 6) ek_TItem rfl e9 rfl rfl rfl) ?_
                  refine rdraw.op rfl rfl ?_
                  obtain ⟨v10, e10, h18⟩ := bindS h17
                  refine rdraw.call rfl rfl rfl (CallW.val (r' := .str v10) ok_laws_markText (law_laws_markText e10) (.cons .int .nil) .refl ⟨rfl, ?_⟩)
                  refine rdraw.gen rfl rfl fun b hb => ?_
                  cases b
                  · have h19 := iteBF h18 hb
                    refine rdraw.done ?_
                    refine RW.keep [0, 1, 5, 79] (a' := [(0, .lst false 9 (fl (enc_TItem false) x0) x0.length), (1, .int .i64 (w64 ((w64 ((w64 ((w64 ((w64 ((w64 (s1.1 + 1)) + 1)) + 1)) + 1)) + 1)) + 1))), (5, .int .i64 s1.2), (79, .bool false)]) (H' := []) rfl rfl ?_
                    refine RW.cond_f rfl ?_
                    refine RW.skip ?_
                    refine RW.sreg ?_
                    refine rl.run 3 rfl ?_
                    refine rl.done ?_
                    refine RW.seq ?_
                    refine RW.sdrw ?_
                    refine rdraw.op rfl rfl ?_
                    refine rdraw.op rfl rfl ?_
                    obtain ⟨v11, e11, h20⟩ := bindS h19
                    refine rdraw.op rfl (x_ia_lst (enc := enc_TItem) (o := false) rfl rfl rfl e11) ?_
                    refine rdraw.op rfl rfl ?_
                    refine rdraw.op rfl rfl ?_
                    refine rdraw.op rfl (x_ld_el (off' := 7) ek_TItem rfl e11 rfl rfl rfl) ?_
                    refine rdraw.op rfl rfl ?_
                    obtain ⟨v12, e12, h21⟩ := bindS h20
                    refine rdraw.call rfl rfl rfl (CallW.val (r' := .str v12) ok_laws_markText (law_laws_markText e12) (.cons .int .nil) .refl ⟨rfl, ?_⟩)
                    refine rdraw.gen rfl rfl fun b hb => ?_
                    cases b
                    · have h22 := iteBF h21 hb
                      refine rdraw.done ?_
                      refine RW.keep [0, 1, 5, 90] (a' := [(0, .lst false 9 (fl (enc_TItem false) x0) x0.length), (1, .int .i64 (w64 ((w64 ((w64 ((w64 ((w64 ((w64 ((w64 (s1.1 + 1)) + 1)) + 1)) + 1)) + 1)) + 1)) + 1))), (5, .int .i64 s1.2), (90, .bool false)]) (H' := []) rfl rfl ?_
                      refine RW.cond_f rfl ?_
                      refine RW.skip ?_
                      refine RW.sreg ?_
                      refine rl.run 3 rfl ?_
                      refine rl.done ?_
                      refine RW.seq ?_
                      refine RW.sdrw ?_
                      refine rdraw.op rfl rfl ?_
                      refine rdraw.op rfl rfl ?_
                      obtain ⟨v13, e13, h23⟩ := bindS h22
                      refine rdraw.op rfl (x_ia_lst (enc := enc_TItem) (o := false) rfl rfl rfl e13) ?_
                      refine rdraw.op rfl rfl ?_
                      refine rdraw.op rfl rfl ?_
                      refine rdraw.op rfl (x_ld_el (off' := 8) ek_TItem rfl e13 rfl rfl rfl) ?_
                      refine rdraw.op rfl rfl ?_
                      obtain ⟨v14, e14, h24⟩ := bindS h23
                      refine rdraw.call rfl rfl rfl (CallW.val (r' := .str v14) ok_laws_markText (law_laws_markText e14) (.cons .int .nil) .refl ⟨rfl, ?_⟩)
                      refine rdraw.gen rfl rfl fun b hb => ?_
                      cases b
                      · have h25 := iteBF h24 hb
                        refine rdraw.done ?_
                        refine RW.keep [0, 1, 5, 101] (a' := [(0, .lst false 9 (fl (enc_TItem false) x0) x0.length), (1, .int .i64 (w64 ((w64 ((w64 ((w64 ((w64 ((w64 ((w64 ((w64 (s1.1 + 1)) + 1)) + 1)) + 1)) + 1)) + 1)) + 1)) + 1))), (5, .int .i64 s1.2), (101, .bool false)]) (H' := []) rfl rfl ?_
                        refine RW.cond_f rfl ?_
                        refine RW.skip ?_
                        refine RW.reg ?_
                        refine rl.run 3 rfl ?_
                        refine rl.done ?_
                        refine RW.reg ?_
                        refine rl.run 3 rfl ?_
                        refine rl.done ?_
                        cases h25
                        exact hB1 _ rfl _ _ (Gh.ren0 [] .nil rfl (.cons rfl (.dat (ek_TItem.rlst)) (.cons rfl (.dat .int) (.cons rfl (.dat .int) .nil))))
                      · have h26 := iteBT h24 hb
                        refine rdraw.done ?_
                        refine RW.keep [0, 1, 5, 101] (a' := [(0, .lst false 9 (fl (enc_TItem false) x0) x0.length), (1, .int .i64 (w64 ((w64 ((w64 ((w64 ((w64 ((w64 ((w64 ((w64 (s1.1 + 1)) + 1)) + 1)) + 1)) + 1)) + 1)) + 1)) + 1))), (5, .int .i64 s1.2), (101, .bool true)]) (H' := []) rfl rfl ?_
                        refine RW.cond_t rfl ?_
                        refine RW.sreg ?_
                        refine rl.run 1 rfl ?_
                        refine rl.done ?_
                        refine RW.ret ?_
                        cases h26
                        have h27 := elimL h2 (hE1 _ rfl)
                        cases h27
                        exact RRet.mk rfl .int (by decide)
                    · have h28 := iteBT h21 hb
                      refine rdraw.done ?_
                      refine RW.keep [0, 1, 5, 90] (a' := [(0, .lst false 9 (fl (enc_TItem false) x0) x0.length), (1, .int .i64 (w64 ((w64 ((w64 ((w64 ((w64 ((w64 ((w64 (s1.1 + 1)) + 1)) + 1)) + 1)) + 1)) + 1)) + 1))), (5, .int .i64 s1.2), (90, .bool true)]) (H' := []) rfl rfl ?_
                      refine RW.cond_t rfl ?_
                      refine RW.sreg ?_
                      refine rl.run 1 rfl ?_
                      refine rl.done ?_
                      refine RW.ret ?_
                      cases h28
                      have h29 := elimL h2 (hE1 _ rfl)
                      cases h29
                      exact RRet.mk rfl .int (by decide)
                  · have h30 := iteBT h18 hb
                    refine rdraw.done ?_
                    refine RW.keep [0, 1, 5, 79] (a' := [(0, .lst false 9 (fl (enc_TItem false) x0) x0.length), (1, .int .i64 (w64 ((w64 ((w64 ((w64 ((w64 ((w64 (s1.1 + 1)) + 1)) + 1)) + 1)) + 1)) + 1))), (5, .int .i64 s1.2), (79, .bool true)]) (H' := []) rfl rfl ?_
                    refine RW.cond_t rfl ?_
                    refine RW.sreg ?_
                    refine rl.run 1 rfl ?_
                    refine rl.done ?_
                    refine RW.ret ?_
                    cases h30
                    have h31 := elimL h2 (hE1 _ rfl)
                    cases h31
                    exact RRet.mk rfl .int (by decide)
                · have h32 := iteBT h15 hb
                  refine rl.done ?_
                  refine RW.keep [0, 1, 5, 68] (a' := [(0, .lst false 9 (fl (enc_TItem false) x0) x0.length), (1, .int .i64 (w64 ((w64 ((w64 ((w64 ((w64 (s1.1 + 1)) + 1)) + 1)) + 1)) + 1))), (5, .int .i64 s1.2), (68, .bool true)]) (H' := []) rfl rfl ?_
                  refine RW.cond_t rfl ?_
                  refine RW.sreg ?_
                  refine rl.run 1 rfl ?_
                  refine rl.done ?_
                  refine RW.ret ?_
                  cases h32
                  have h33 := elimL h2 (hE1 _ rfl)
                  cases h33
                  exact RRet.mk rfl .int (by decide)
              · have h34 := iteBT h13 hb
                refine rl.done ?_
                refine RW.cond_t rfl ?_
                refine RW.sreg ?_
                refine rl.run 1 rfl ?_
                refine rl.done ?_
                refine RW.keep [4] (a' := [(4, .int .i64 (-1))]) (H' := []) rfl rfl ?_
                refine RW.ret ?_
                cases h34
                have h35 := elimL h2 (hE1 _ rfl)
                cases h35
                exact RRet.mk rfl .int (by decide)
            · have h36 := iteBT h11 hb
              refine rl.done ?_
              refine RW.cond_t rfl ?_
              refine RW.sreg ?_
              refine rl.run 1 rfl ?_
              refine rl.done ?_
              refine RW.keep [4] (a' := [(4, .int .i64 (-1))]) (H' := []) rfl rfl ?_
              refine RW.ret ?_
              cases h36
              have h37 := elimL h2 (hE1 _ rfl)
              cases h37
              exact RRet.mk rfl .int (by decide)
          · have h38 := iteBT h9 hb
            refine rl.done ?_
            refine RW.keep [0, 1, 5, 38] (a' := [(0, .lst false 9 (fl (enc_TItem false) x0) x0.length), (1, .int .i64 (w64 ((w64 (s1.1 + 1)) + 1))), (5, .int .i64 s1.2), (38, .bool true)]) (H' := []) rfl rfl ?_
            refine RW.cond_t rfl ?_
            refine RW.sreg ?_
            refine rl.run 1 rfl ?_
            refine rl.done ?_
            refine RW.ret ?_
            cases h38
            have h39 := elimL h2 (hE1 _ rfl)
            cases h39
            exact RRet.mk rfl .int (by decide)
        · have h40 := iteBT h7 hb
          refine rl.done ?_
          refine RW.cond_t rfl ?_
          refine RW.sreg ?_
          refine rl.run 1 rfl ?_
          refine rl.done ?_
          refine RW.keep [4] (a' := [(4, .int .i64 (-1))]) (H' := []) rfl rfl ?_
          refine RW.ret ?_
          cases h40
          have h41 := elimL h2 (hE1 _ rfl)
          cases h41
          exact RRet.mk rfl .int (by decide)
      · have h42 := iteBT h5 hb
        refine rl.done ?_
        refine RW.cond_t rfl ?_
        refine RW.sreg ?_
        refine rl.run 1 rfl ?_
        refine rl.done ?_
        refine RW.keep [4] (a' := [(4, .int .i64 (-1))]) (H' := []) rfl rfl ?_
        refine RW.ret ?_
        cases h42
        have h43 := elimL h2 (hE1 _ rfl)
        cases h43
        exact RRet.mk rfl .int (by decide)
  · intro y2 hC
    have h2 := elimR h2 hC
    refine RW.sreg ?_
    refine rl.run 2 rfl ?_
    refine rl.done ?_
    refine RW.ret ?_
    cases h2
    exact RRet.mk rfl .int (by decide)
theorem law_laws_FnExactWithout {x0 : List TItem} {x1 : List Bool} {r : Bool} (hF : F_laws_FnExactWithout x0 x1 = some r) : PCalls Try.prog 5 [.lst false 9 (fl (enc_TItem false) x0) x0.length, .lst false 1 (fl (encO false) x1) x1.length] (.bool r) := by
  refine PCalls.of_r k_laws_FnExactWithout rfl ?_
  unfold F_laws_FnExactWithout at hF
  refine RW.sreg ?_
  refine rl.run 1 rfl ?_
  refine rl.done ?_
  refine RW.seq ?_
  refine RW.sreg ?_
  refine rl.run 2 rfl ?_
  refine rl.gen rfl rfl fun b hb => ?_
  cases b
  · have h1 := iteBF hF hb
    refine rl.done ?_
    refine RW.cond_f rfl ?_
    refine RW.skip ?_
    refine RW.sreg ?_
    refine rl.run 1 rfl ?_
    refine rl.done ?_
    refine RW.sreg ?_
    refine rl.run 2 rfl ?_
    obtain ⟨v1, e1, h2⟩ := bindS h1
    refine rl.call rfl rfl rfl (CallW.val (r' := .int .i64 v1) ok_laws_szItemS (law_laws_szItemS e1) (.cons (.lst ek_TItem) (.cons .int .nil)) .refl ?_)
    refine rl.run 1 rfl ?_
    refine rl.done ?_
    refine RW.seq ?_
    refine RW.sreg ?_
    refine rl.run 1 rfl ?_
    refine rl.gen rfl rfl fun b hb => ?_
    cases b
    · have h3 := iteBF h2 hb
      refine rl.done ?_
      refine RW.cond_f rfl ?_
      refine RW.skip ?_
      refine RW.sreg ?_
      refine rl.run 1 rfl ?_
      obtain ⟨v2, e2, h4⟩ := bindS h3
      refine rl.call rfl rfl rfl (CallW.val (r' := .lst false 9 (fl (enc_TItem false) v2) v2.length) ok_laws_toItemS (law_laws_toItemS e2) (.cons (.lst ek_TItem) .nil) (ek_TItem.fflag _).lst ?_)
      refine rl.run 1 rfl ?_
      obtain ⟨v3, e3, h5⟩ := bindS h4
      refine rl.call rfl rfl rfl (CallW.val (r' := .lst false 1 (fl (encO false) v3) v3.length) ok_laws_toBoolS (law_laws_toBoolS e3) (.cons (.lst ekO) .nil) (ekO.fflag _).lst ?_)
      obtain ⟨v4, e4, h6⟩ := bindS h5
      refine rl.call rfl rfl rfl (CallW.val (r' := .lst false 9 (fl (enc_TItem false) v4) v4.length) ok_spec_Without (law_spec_Without e4) (.cons (.lst ek_TItem) (.cons (.lst ekO) .nil)) (ek_TItem.fflag _).lst ?_)
      refine rl.run 1 rfl ?_
      refine rl.done ?_
      refine RW.keep [0, 1, 6] (a' := [(0, .lst false 9 (fl (enc_TItem false) x0) x0.length), (1, .lst false 1 (fl (encO false) x1) x1.length), (6, .lst false 9 (fl (enc_TItem false) v4) v4.length)]) (H' := []) rfl rfl ?_
      refine RW.sreg ?_
      refine rl.run 1 rfl ?_
      obtain ⟨v5, e5, h7⟩ := bindS h6
      refine rl.call rfl rfl rfl (CallW.own (r' := .sl 0 0 v5.length) (H' := [some ⟨fl (enc_TItem true) v5, 9⟩]) ok_laws_toItemS (law_laws_toItemS e5) (.cons (.lst ek_TItem) .nil) (.lst (ek_TItem.fown _)) rfl ?_)
      refine rl.run 1 rfl ?_
      refine rl.done ?_
      refine RW.sreg ?_
      refine rl.run 1 rfl ?_
      obtain ⟨v6, e6, h8⟩ := bindS h7
      refine rl.call rfl rfl rfl (CallW.own (r' := .sl 1 0 v6.length) (H' := [some ⟨fl (enc_TItem true) v5, 9⟩, some ⟨fl (encO true) v6, 1⟩]) ok_laws_toBoolS (law_laws_toBoolS e6) (.cons (.lst ekO) .nil) (.lst (ekO.fown _)) rfl ?_)
      refine rl.run 1 rfl ?_
      refine rl.done ?_
      refine RW.sreg ?_
      refine rl.run 2 rfl ?_
      obtain ⟨v7, e7, h9⟩ := bindS h8
      refine rl.call rfl rfl rfl (CallW.own (r' := .sl 2 0 v7.length) (H' := [some ⟨fl (enc_TItem true) v5, 9⟩, some ⟨fl (encO true) v6, 1⟩, some ⟨fl (enc_TItem true) v7, 9⟩]) ok_impl_Without (law_impl_Without e7) (.cons (.slq ek_TItem rfl rfl) (.cons (.slq ekO rfl rfl) .nil)) (.lst (ek_TItem.fown _)) rfl ?_)
      refine rl.run 1 rfl ?_
      refine rl.done ?_
      refine RW.seq ?_
      refine RW.sreg ?_
      refine rl.run 2 rfl ?_
      obtain ⟨v8, e8, h10⟩ := bindS h9
      refine rl.call rfl rfl rfl (CallW.val (r' := .bool v8) ok_laws_eqItemS (law_laws_eqItemS e8) (.cons (.slq ek_TItem rfl rfl) (.cons (.lst ek_TItem) .nil)) .refl ?_)
      cases hb : v8
      · have h11 := iteBF h10 hb
        refine rl.run 1 rfl ?_
        refine rl.done ?_
        refine RW.cond_t rfl ?_
        refine RW.sreg ?_
        refine rl.run 1 rfl ?_
        refine rl.done ?_
        refine RW.keep [4] (a' := [(4, .bool false)]) (H' := [some ⟨fl (enc_TItem true) v5, 9⟩, some ⟨fl (encO true) v6, 1⟩, some ⟨fl (enc_TItem true) v7, 9⟩]) rfl rfl ?_
        refine RW.ret ?_
        cases h11
        exact RRet.mk rfl .bool (by decide)
      · have h12 := iteBT h10 hb
        refine rl.run 1 rfl ?_
        refine rl.done ?_
        refine RW.cond_f rfl ?_
        refine RW.skip ?_
        refine RW.seq ?_
        refine RW.sreg ?_
        refine rl.run 2 rfl ?_
        obtain ⟨v9, e9, h13⟩ := bindS h12
        refine rl.call rfl rfl rfl (CallW.val (r' := .lst false 9 (fl (enc_TItem false) v9) v9.length) ok_laws_toItemS (law_laws_toItemS e9) (.cons (.lst ek_TItem) .nil) (ek_TItem.fflag _).lst ?_)
        obtain ⟨v10, e10, h14⟩ := bindS h13
        refine rl.call rfl rfl rfl (CallW.val (r' := .bool v10) ok_laws_eqItemS (law_laws_eqItemS e10) (.cons (.slq ek_TItem rfl rfl) (.cons (.lst ek_TItem) .nil)) .refl ?_)
        cases hb : v10
        · have h15 := iteBF h14 hb
          refine rl.run 1 rfl ?_
          refine rl.done ?_
          refine RW.keep [0, 1, 6, 7, 8, 9, 42] (a' := [(0, .lst false 9 (fl (enc_TItem false) x0) x0.length), (1, .lst false 1 (fl (encO false) x1) x1.length), (6, .lst false 9 (fl (enc_TItem false) v4) v4.length), (7, .sl 0 0 v5.length), (8, .sl 1 0 v6.length), (9, .sl 2 0 v7.length), (42, .bool true)]) (H' := [some ⟨fl (enc_TItem true) v5, 9⟩, some ⟨fl (encO true) v6, 1⟩, some ⟨fl (enc_TItem true) v7, 9⟩]) rfl rfl ?_
          refine RW.cond_t rfl ?_
          refine RW.sreg ?_
          refine rl.run 1 rfl ?_
          refine rl.done ?_
          refine RW.ret ?_
          cases h15
          exact RRet.mk rfl .bool (by decide)
        · have h16 := iteBT h14 hb
          refine rl.run 1 rfl ?_
          refine rl.done ?_
          refine RW.keep [0, 1, 6, 7, 8, 9, 42] (a' := [(0, .lst false 9 (fl (enc_TItem false) x0) x0.length), (1, .lst false 1 (fl (encO false) x1) x1.length), (6, .lst false 9 (fl (enc_TItem false) v4) v4.length), (7, .sl 0 0 v5.length), (8, .sl 1 0 v6.length), (9, .sl 2 0 v7.length), (42, .bool false)]) (H' := [some ⟨fl (enc_TItem true) v5, 9⟩, some ⟨fl (encO true) v6, 1⟩, some ⟨fl (enc_TItem true) v7, 9⟩]) rfl rfl ?_
          refine RW.cond_f rfl ?_
          refine RW.skip ?_
          refine RW.seq ?_
          refine RW.sreg ?_
          refine rl.run 2 rfl ?_
          obtain ⟨v11, e11, h17⟩ := bindS h16
          refine rl.call rfl rfl rfl (CallW.val (r' := .lst false 1 (fl (encO false) v11) v11.length) ok_laws_toBoolS (law_laws_toBoolS e11) (.cons (.lst ekO) .nil) (ekO.fflag _).lst ?_)
          obtain ⟨v12, e12, h18⟩ := bindS h17
          refine rl.call rfl rfl rfl (CallW.val (r' := .bool v12) ok_laws_eqBoolS (law_laws_eqBoolS e12) (.cons (.slq ekO rfl rfl) (.cons (.lst ekO) .nil)) .refl ?_)
          cases hb : v12
          · have h19 := iteBF h18 hb
            refine rl.run 1 rfl ?_
            refine rl.done ?_
            refine RW.cond_t rfl ?_
            refine RW.sreg ?_
            refine rl.run 1 rfl ?_
            refine rl.done ?_
            refine RW.keep [4] (a' := [(4, .bool false)]) (H' := [some ⟨fl (enc_TItem true) v5, 9⟩, some ⟨fl (encO true) v6, 1⟩, some ⟨fl (enc_TItem true) v7, 9⟩]) rfl rfl ?_
            refine RW.ret ?_
            cases h19
            exact RRet.mk rfl .bool (by decide)
          · have h20 := iteBT h18 hb
            refine rl.run 1 rfl ?_
            refine rl.done ?_
            refine RW.cond_f rfl ?_
            refine RW.skip ?_
            refine RW.sreg ?_
            refine rl.run 1 rfl ?_
            refine rl.done ?_
            refine RW.sreg ?_
            refine rl.run 2 rfl ?_
            obtain ⟨v13, e13, h21⟩ := bindS h20
            refine rl.call rfl rfl rfl (CallW.embW (r0 := .int .i64 v13.1) (H' := [some ⟨fl (enc_TItem true) v13.2, 9⟩, some ⟨fl (encO true) v6, 1⟩, some ⟨fl (enc_TItem true) v7, 9⟩]) [⟨fl (enc_TItem true) v5, 9⟩] [⟨fl (enc_TItem true) v13.2, 9⟩] [0] ok_laws_markItemS (law_laws_markItemS_w (guardO_s e13)) (.cons rfl (ek_TItem.fref _ _) (ek_TItem.fown _) .nil) rfl (.cons (.slq rfl rfl) (.cons (.dat .int) .nil)) .int rfl rfl ?_)
            refine rl.run 1 rfl ?_
            refine rl.done ?_
            refine RW.sreg ?_
            refine rl.run 2 rfl ?_
            obtain ⟨v14, e14, h22⟩ := bindS h21
            refine rl.call rfl rfl rfl (CallW.embW (r0 := .int .i64 v14.1) (H' := [some ⟨fl (enc_TItem true) v13.2, 9⟩, some ⟨fl (encO true) v14.2, 1⟩, some ⟨fl (enc_TItem true) v7, 9⟩]) [⟨fl (encO true) v6, 1⟩] [⟨fl (encO true) v14.2, 1⟩] [1] ok_laws_markBoolS (law_laws_markBoolS_w (guardO_s e14)) (.cons rfl (ekO.fref _ _) (ekO.fown _) .nil) rfl (.cons (.slq rfl rfl) (.cons (.dat .int) .nil)) .int rfl rfl ?_)
            refine rl.run 1 rfl ?_
            refine rl.done ?_
            refine RW.keep [0, 1, 6, 9, 10] (a' := [(0, .lst false 9 (fl (enc_TItem false) x0) x0.length), (1, .lst false 1 (fl (encO false) x1) x1.length), (6, .lst false 9 (fl (enc_TItem false) v4) v4.length), (9, .sl 2 0 v7.length), (10, .int .i64 v14.1)]) (H' := [some ⟨fl (enc_TItem true) v13.2, 9⟩, some ⟨fl (encO true) v14.2, 1⟩, some ⟨fl (enc_TItem true) v7, 9⟩]) rfl rfl ?_
            refine RW.seq ?_
            refine RW.seq ?_
            obtain ⟨y15, ey15, h23⟩ := bindS h22
            refine RW.cutq (σ := Bool) (fun y15 => [(0, .lst false 9 (fl (enc_TItem false) x0) x0.length), (1, .lst false 1 (fl (encO false) x1) x1.length), (6, .lst false 9 (fl (enc_TItem false) v4) v4.length), (9, .sl 0 0 v7.length), (61, .bool y15)]) (fun y15 => [some ⟨fl (enc_TItem true) v7, 9⟩]) (fun y => y15 = y) (fun _ _ _ _ g h => RW.gh g h) ?_ ?_
            · refine RW.reg ?_
              refine rl.run 1 rfl ?_
              refine rl.gen rfl rfl fun b hb => ?_
              cases b
              · have h24 := iteBF ey15 hb
                refine rl.run 3 rfl ?_
                obtain ⟨v16, e16, h25⟩ := bindS h24
                refine rl.call rfl rfl rfl (CallW.val (r' := .bool v16) ok_laws_eqItemS (law_laws_eqItemS e16) (.cons (.slq ek_TItem rfl rfl) (.cons (.lst ek_TItem) .nil)) .refl ?_)
                cases hb : v16
                · have h26 := iteBF h25 hb
                  refine rl.run 2 rfl ?_
                  refine rl.done ?_
                  cases h26
                  exact ⟨_, rfl, (Gh.ren0 [2] (.same rfl (ek_TItem.fref _ _) .nil) rfl (.cons rfl (.dat (ek_TItem.rlst)) (.cons rfl (.dat (ekO.rlst)) (.cons rfl (.dat (ek_TItem.rlst)) (.cons rfl (.slq rfl rfl) (.cons rfl (.dat .bool) .nil))))))⟩
                · have h27 := iteBT h25 hb
                  refine rl.run 2 rfl ?_
                  refine rl.done ?_
                  cases h27
                  exact ⟨_, rfl, (Gh.ren0 [2] (.same rfl (ek_TItem.fref _ _) .nil) rfl (.cons rfl (.dat (ek_TItem.rlst)) (.cons rfl (.dat (ekO.rlst)) (.cons rfl (.dat (ek_TItem.rlst)) (.cons rfl (.slq rfl rfl) (.cons rfl (.dat .bool) .nil))))))⟩
              · have h28 := iteBT ey15 hb
                refine rl.run 6 rfl ?_
                refine rl.done ?_
                cases h28
                exact ⟨_, rfl, (Gh.ren0 [2] (.same rfl (ek_TItem.fref _ _) .nil) rfl (.cons rfl (.dat (ek_TItem.rlst)) (.cons rfl (.dat (ekO.rlst)) (.cons rfl (.dat (ek_TItem.rlst)) (.cons rfl (.slq rfl rfl) (.cons rfl (.dat .bool) .nil))))))⟩
            · intro y hC
              subst hC
              cases hb : y15
              · have h29 := iteBF h23 hb
                refine RW.cond_f rfl ?_
                refine RW.skip ?_
                refine RW.sreg ?_
                refine rl.run 1 rfl ?_
                refine rl.done ?_
                refine RW.sreg ?_
                refine rl.run 2 rfl ?_
                obtain ⟨v17, e17, h30⟩ := bindS h29
                refine rl.call rfl rfl rfl (CallW.embW (r0 := .int .i64 v17.1) (H' := [some ⟨fl (enc_TItem true) v17.2, 9⟩]) [⟨fl (enc_TItem true) v7, 9⟩] [⟨fl (enc_TItem true) v17.2, 9⟩] [0] ok_laws_markItemS (law_laws_markItemS_w (guardO_s e17)) (.cons rfl (ek_TItem.fref _ _) (ek_TItem.fown _) .nil) rfl (.cons (.slq rfl rfl) (.cons (.dat .int) .nil)) .int rfl rfl ?_)
                refine rl.run 1 rfl ?_
                refine rl.done ?_
                refine RW.sreg ?_
                refine rl.run 1 rfl ?_
                refine rl.done ?_
                refine RW.sreg ?_
                refine rl.run 2 rfl ?_
                obtain ⟨v18, e18, h31⟩ := bindS h30
                refine rl.call rfl rfl rfl (CallW.val (r' := .int .i64 v18) ok_laws_heldItemS (law_laws_heldItemS e18) (.cons (.slq ek_TItem rfl (guardO_p (p := fun r : Int × (List TItem) => v7.length = r.2.length) e17)) (.cons .int .nil)) .refl ?_)
                refine rl.run 1 rfl ?_
                refine rl.done ?_
                refine RW.seq ?_
                refine RW.sreg ?_
                refine rl.run 1 rfl ?_
                refine rl.gen rfl rfl fun b hb => ?_
                cases b
                · have h32 := iteBF h31 hb
                  refine rl.done ?_
                  refine RW.cond_f rfl ?_
                  refine RW.skip ?_
                  refine RW.seq ?_
                  refine RW.sreg ?_
                  refine rl.run 2 rfl ?_
                  refine rl.gen rfl rfl fun b hb => ?_
                  cases b
                  · have h33 := iteBF h32 hb
                    refine rl.done ?_
                    refine RW.keep [0, 1, 6, 9, 11, 72] (a' := [(0, .lst false 9 (fl (enc_TItem false) x0) x0.length), (1, .lst false 1 (fl (encO false) x1) x1.length), (6, .lst false 9 (fl (enc_TItem false) v4) v4.length), (9, .sl 0 0 v7.length), (11, .int .i64 v17.1), (72, .bool false)]) (H' := [some ⟨fl (enc_TItem true) v17.2, 9⟩]) rfl rfl ?_
                    refine RW.cond_f rfl ?_
                    refine RW.skip ?_
                    refine RW.sreg ?_
                    refine rl.run 1 rfl ?_
                    obtain ⟨v19, e19, h34⟩ := bindS h33
                    refine rl.call rfl rfl rfl (CallW.val (r' := .lst false 9 (fl (enc_TItem false) v19) v19.length) ok_laws_toItemS (law_laws_toItemS e19) (.cons (.lst ek_TItem) .nil) (ek_TItem.fflag _).lst ?_)
                    refine rl.run 1 rfl ?_
                    obtain ⟨v20, e20, h35⟩ := bindS h34
                    refine rl.call rfl rfl rfl (CallW.val (r' := .lst false 1 (fl (encO false) v20) v20.length) ok_laws_toBoolS (law_laws_toBoolS e20) (.cons (.lst ekO) .nil) (ekO.fflag _).lst ?_)
                    obtain ⟨v21, e21, h36⟩ := bindS h35
                    refine rl.call rfl rfl rfl (CallW.val (r' := .lst false 9 (fl (enc_TItem false) v21) v21.length) ok_impl_Without (law_impl_Without e21) (.cons (.lst ek_TItem) (.cons (.lst ekO) .nil)) (ek_TItem.fflag _).lst ?_)
                    refine rl.run 1 rfl ?_
                    refine rl.done ?_
                    refine RW.seq ?_
                    refine RW.sreg ?_
                    refine rl.run 2 rfl ?_
                    obtain ⟨v22, e22, h37⟩ := bindS h36
                    refine rl.call rfl rfl rfl (CallW.val (r' := .bool v22) ok_laws_eqItemS (law_laws_eqItemS e22) (.cons (.lst ek_TItem) (.cons (.lst ek_TItem) .nil)) .refl ?_)
                    cases hb : v22
                    · have h38 := iteBF h37 hb
                      refine rl.run 1 rfl ?_
                      refine rl.done ?_
                      refine RW.keep [9, 11, 81] (a' := [(9, .sl 0 0 v7.length), (11, .int .i64 v17.1), (81, .bool true)]) (H' := [some ⟨fl (enc_TItem true) v17.2, 9⟩]) rfl rfl ?_
                      refine RW.cond_t rfl ?_
                      refine RW.sreg ?_
                      refine rl.run 1 rfl ?_
                      refine rl.done ?_
                      refine RW.ret ?_
                      cases h38
                      exact RRet.mk rfl .bool (by decide)
                    · have h39 := iteBT h37 hb
                      refine rl.run 1 rfl ?_
                      refine rl.done ?_
                      refine RW.keep [9, 11, 81] (a' := [(9, .sl 0 0 v7.length), (11, .int .i64 v17.1), (81, .bool false)]) (H' := [some ⟨fl (enc_TItem true) v17.2, 9⟩]) rfl rfl ?_
                      refine RW.cond_f rfl ?_
                      refine RW.skip ?_
                      refine RW.sreg ?_
                      refine rl.run 1 rfl ?_
                      refine rl.done ?_
                      refine RW.sreg ?_
                      refine rl.run 2 rfl ?_
                      obtain ⟨v23, e23, h40⟩ := bindS h39
                      refine rl.call rfl rfl rfl (CallW.val (r' := .int .i64 v23) ok_laws_heldItemS (law_laws_heldItemS e23) (.cons (.slq ek_TItem rfl (guardO_p (p := fun r : Int × (List TItem) => v7.length = r.2.length) e17)) (.cons .int .nil)) .refl ?_)
                      refine rl.run 1 rfl ?_
                      refine rl.done ?_
                      refine RW.seq ?_
                      refine RW.sreg ?_
                      refine rl.run 1 rfl ?_
                      refine rl.gen rfl rfl fun b hb => ?_
                      cases b
                      · have h41 := iteBF h40 hb
                        refine rl.done ?_
                        refine RW.cond_f rfl ?_
                        refine RW.skip ?_
                        refine RW.seq ?_
                        refine RW.sreg ?_
                        refine rl.run 2 rfl ?_
                        refine rl.gen rfl rfl fun b hb => ?_
                        cases b
                        · have h42 := iteBF h41 hb
                          refine rl.done ?_
                          refine RW.keep [89] (a' := [(89, .bool false)]) (H' := [some ⟨fl (enc_TItem true) v17.2, 9⟩]) rfl rfl ?_
                          refine RW.cond_f rfl ?_
                          refine RW.skip ?_
                          refine RW.sreg ?_
                          refine rl.run 1 rfl ?_
                          refine rl.done ?_
                          refine RW.ret ?_
                          cases h42
                          exact RRet.mk rfl .bool (by decide)
                        · have h43 := iteBT h41 hb
                          refine rl.done ?_
                          refine RW.keep [89] (a' := [(89, .bool true)]) (H' := [some ⟨fl (enc_TItem true) v17.2, 9⟩]) rfl rfl ?_
                          refine RW.cond_t rfl ?_
                          refine RW.sreg ?_
                          refine rl.run 1 rfl ?_
                          refine rl.done ?_
                          refine RW.ret ?_
                          cases h43
                          exact RRet.mk rfl .bool (by decide)
                      · have h44 := iteBT h40 hb
                        refine rl.done ?_
                        refine RW.cond_t rfl ?_
                        refine RW.sreg ?_
                        refine rl.run 1 rfl ?_
                        refine rl.done ?_
                        refine RW.ret ?_
                        cases h44
                        exact RRet.mk rfl .bool (by decide)
                  · have h45 := iteBT h32 hb
                    refine rl.done ?_
                    refine RW.keep [0, 1, 6, 9, 11, 72] (a' := [(0, .lst false 9 (fl (enc_TItem false) x0) x0.length), (1, .lst false 1 (fl (encO false) x1) x1.length), (6, .lst false 9 (fl (enc_TItem false) v4) v4.length), (9, .sl 0 0 v7.length), (11, .int .i64 v17.1), (72, .bool true)]) (H' := [some ⟨fl (enc_TItem true) v17.2, 9⟩]) rfl rfl ?_
                    refine RW.cond_t rfl ?_
                    refine RW.sreg ?_
                    refine rl.run 1 rfl ?_
                    refine rl.done ?_
                    refine RW.ret ?_
                    cases h45
                    exact RRet.mk rfl .bool (by decide)
                · have h46 := iteBT h31 hb
                  refine rl.done ?_
                  refine RW.cond_t rfl ?_
                  refine RW.sreg ?_
                  refine rl.run 1 rfl ?_
                  refine rl.done ?_
                  refine RW.keep [4] (a' := [(4, .bool false)]) (H' := [some ⟨fl (enc_TItem true) v17.2, 9⟩]) rfl rfl ?_
                  refine RW.ret ?_
                  cases h46
                  exact RRet.mk rfl .bool (by decide)
              · have h47 := iteBT h23 hb
                refine RW.cond_t rfl ?_
                refine RW.sreg ?_
                refine rl.run 1 rfl ?_
                refine rl.done ?_
                refine RW.ret ?_
                cases h47
                exact RRet.mk rfl .bool (by decide)
    · have h48 := iteBT h2 hb
      refine rl.done ?_
      refine RW.cond_t rfl ?_
      refine RW.sreg ?_
      refine rl.run 1 rfl ?_
      refine rl.done ?_
      refine RW.keep [4] (a' := [(4, .bool true)]) (H' := []) rfl rfl ?_
      refine RW.ret ?_
      cases h48
      exact RRet.mk rfl .bool (by decide)
  · have h49 := iteBT hF hb
    refine rl.done ?_
    refine RW.cond_t rfl ?_
    refine RW.sreg ?_
    refine rl.run 1 rfl ?_
    refine rl.done ?_
    refine RW.ret ?_
    cases h49
    exact RRet.mk rfl .bool (by decide)
end Go.Proofs.Ytpecafogemipmaa.V
