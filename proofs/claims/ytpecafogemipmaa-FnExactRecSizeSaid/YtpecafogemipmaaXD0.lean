/- What a call comes to. -/
import Derived.Test.YtpecafogemipmaaXT
import Derived.Test.YtpecafogemipmaaXU
namespace Go.Proofs.Ytpecafogemipmaa.V
open Go Go.Proofs Go.RowKit
set_option maxRecDepth 100000
theorem law_laws_szRec {x0 : TRec} {x1 : Int} {r : Int} (hF : F_laws_szRec x0 x1 = some r) : PCalls Try.prog 26 [.agg (enc_TRec false x0), .int .i64 x1] (.int .i64 r) := by
  refine PCalls.of_r k_laws_szRec rfl ?_
  unfold F_laws_szRec at hF
  refine RW.sreg ?_
  refine rl.run 2 rfl ?_
  refine rl.done ?_
  refine RW.sreg ?_
  refine rl.run 6 rfl ?_
  refine rl.done ?_
  refine RW.seq ?_
  refine RW.sreg ?_
  refine rl.run 1 rfl ?_
  refine rl.gen rfl rfl fun b hb => ?_
  cases b
  · have h1 := iteBF hF hb
    refine rl.done ?_
    refine RW.cond_f rfl ?_
    refine RW.skip ?_
    refine RW.sreg ?_
    refine rl.run 6 rfl ?_
    refine rl.done ?_
    refine RW.keep [1, 2] (a' := [(1, .int .i64 (w64 ((w64 (x1 - (x0.User.length : Int))) - (x0.Name.length : Int)))), (2, .ptr 0 0)]) (H' := [some ⟨[.int .i64 x0.Kind, .int .i64 x0.Valid, .int .i64 x0.Uid, .int .i64 x0.Next, .int .i64 x0.Flags, .str x0.User, .str x0.Name, .str x0.Text], 0⟩]) rfl rfl ?_
    refine RW.seq ?_
    refine RW.sreg ?_
    refine rl.run 1 rfl ?_
    refine rl.gen rfl rfl fun b hb => ?_
    cases b
    · have h2 := iteBF h1 hb
      refine rl.done ?_
      refine RW.cond_f rfl ?_
      refine RW.skip ?_
      refine RW.sreg ?_
      refine rl.run 6 rfl ?_
      refine rl.done ?_
      refine RW.seq ?_
      refine RW.sreg ?_
      refine rl.run 1 rfl ?_
      refine rl.gen rfl rfl fun b hb => ?_
      cases b
      · have h3 := iteBF h2 hb
        refine rl.done ?_
        refine RW.cond_f rfl ?_
        refine RW.skip ?_
        refine RW.sreg ?_
        refine rl.run 2 rfl ?_
        refine rl.done ?_
        refine RW.keep [4] (a' := [(4, .int .i64 (w64 ((w64 ((w64 (x1 - (x0.User.length : Int))) - (x0.Name.length : Int))) - (x0.Text.length : Int))))]) (H' := [some ⟨[.int .i64 x0.Kind, .int .i64 x0.Valid, .int .i64 x0.Uid, .int .i64 x0.Next, .int .i64 x0.Flags, .str x0.User, .str x0.Name, .str x0.Text], 0⟩]) rfl rfl ?_
        refine RW.ret ?_
        cases h3
        exact RRet.mk rfl .int (by decide)
      · have h4 := iteBT h2 hb
        refine rl.done ?_
        refine RW.cond_t rfl ?_
        refine RW.sreg ?_
        refine rl.run 1 rfl ?_
        refine rl.done ?_
        refine RW.keep [4] (a' := [(4, .int .i64 (-1))]) (H' := [some ⟨[.int .i64 x0.Kind, .int .i64 x0.Valid, .int .i64 x0.Uid, .int .i64 x0.Next, .int .i64 x0.Flags, .str x0.User, .str x0.Name, .str x0.Text], 0⟩]) rfl rfl ?_
        refine RW.ret ?_
        cases h4
        exact RRet.mk rfl .int (by decide)
    · have h5 := iteBT h1 hb
      refine rl.done ?_
      refine RW.cond_t rfl ?_
      refine RW.sreg ?_
      refine rl.run 1 rfl ?_
      refine rl.done ?_
      refine RW.ret ?_
      cases h5
      exact RRet.mk rfl .int (by decide)
  · have h6 := iteBT hF hb
    refine rl.done ?_
    refine RW.cond_t rfl ?_
    refine RW.sreg ?_
    refine rl.run 1 rfl ?_
    refine rl.done ?_
    refine RW.ret ?_
    cases h6
    exact RRet.mk rfl .int (by decide)
theorem law_spec_l01Var {x0 : Int} {r : List UInt8} (hF : F_spec_l01Var x0 = some r) : PCalls Try.prog 43 [.int .i64 x0] (.str r) := by
  refine PCalls.of_r k_spec_l01Var rfl ?_
  unfold F_spec_l01Var at hF
  refine RW.sreg ?_
  refine rl.run 1 rfl ?_
  refine rl.done ?_
  refine RW.sreg ?_
  refine rl.run 2 rfl ?_
  refine rl.done ?_
  refine RW.seq ?_
  obtain ⟨y4, ey4, h2⟩ := bindS hF
  refine RW.cutq (σ := Int × (List Int)) (fun y2 => [(0, .int .i64 y2.1), (3, .sl 0 0 y2.2.length)]) (fun y2 => [some ⟨fl (encB true) y2.2, 1⟩]) (fun y => y4 = y) (fun _ _ _ _ g h => RW.gh g h) ?_ ?_
  · refine RW.blk ?_
    refine RW.iter (σ := Int × (List Int)) ey4 (fun s1 => [(0, .int .i64 s1.1), (3, .sl 0 0 s1.2.length)]) (fun s1 => [some ⟨fl (encB true) s1.2, 1⟩]) (Gh.ren0 [0] (.same rfl (ekB.fref _ _) .nil) rfl (.cons rfl (.dat .int) (.cons rfl (.slq rfl rfl) .nil))) (fun s1 B o hS1 hB1 hE1 => ?_)
    unfold S_spec_l01Var_1 at hS1
    refine RW.seq ?_
    refine RW.sreg ?_
    refine rl.run 1 rfl ?_
    refine rl.gen rfl rfl fun b hb => ?_
    cases b
    · have h3 := iteBF hS1 hb
      refine rl.done ?_
      refine RW.cond_f rfl ?_
      refine RW.exit ?_
      refine blkA_eq ?_
      cases h3
      exact ⟨_, (hE1 _ rfl).symm, (Gh.ren0 [0] (.same rfl (ekB.fref _ _) .nil) rfl (.cons rfl (.dat .int) (.cons rfl (.slq rfl rfl) .nil)))⟩
    · have h4 := iteBT hS1 hb
      refine rl.done ?_
      refine RW.cond_t rfl ?_
      refine RW.skip ?_
      refine RW.blk ?_
      refine RW.sreg ?_
      refine rl.run 6 rfl ?_
      obtain ⟨v3, e3, h5⟩ := bindS h4
      refine rl.op (x_app rfl rfl (rapp_sl (l := s1.2) (m := [IntKind.u8.wrap (w64 ((Int.tmod s1.1 128) + 128))]) (o := true) ekB rfl rfl (acont_slq (m := [IntKind.u8.wrap (w64 ((Int.tmod s1.1 128) + 128))]) (o := true) fkB rfl rfl) rfl (fkB.fst _ _) e3)) ?_
      refine rl.run 1 rfl ?_
      refine rl.done ?_
      refine RW.reg ?_
      refine rl.run 3 rfl ?_
      refine rl.done ?_
      cases h5
      exact hB1 _ rfl _ _ (Gh.ren0 [2] (.same rfl (ekB.fref _ _) .nil) rfl (.cons rfl (.dat .int) (.cons rfl (.slq rfl rfl) .nil)))
  · intro y2 hC
    subst hC
    refine RW.sreg ?_
    refine rl.run 4 rfl ?_
    obtain ⟨v5, e5, h6⟩ := bindS h2
    refine rl.op (x_app rfl rfl (rapp_sl (l := y4.2) (m := [IntKind.u8.wrap y4.1]) (o := true) ekB rfl rfl (acont_slq (m := [IntKind.u8.wrap y4.1]) (o := true) fkB rfl rfl) rfl (fkB.fst _ _) e5)) ?_
    refine rl.op (x_cvb_sl (o := true) (l := v5) rfl rfl) ?_
    refine rl.run 1 rfl ?_
    refine rl.done ?_
    refine RW.ret ?_
    cases h6
    exact RRet.mk rfl .str (by decide)
theorem law_spec_l06Short {x0 : List UInt8} {r : List UInt8} (hF : F_spec_l06Short x0 = some r) : PCalls Try.prog 45 [.str x0] (.str r) := by
  refine PCalls.of_r k_spec_l06Short rfl ?_
  unfold F_spec_l06Short at hF
  refine RW.sreg ?_
  refine rl.run 1 rfl ?_
  refine rl.done ?_
  refine RW.sreg ?_
  refine rl.run 2 rfl ?_
  obtain ⟨v1, e1, h1⟩ := bindS hF
  refine rl.call rfl rfl rfl (CallW.val (r' := .str v1) ok_spec_l01Var (law_spec_l01Var e1) (.cons .int .nil) .refl ?_)
  refine rl.run 1 rfl ?_
  obtain ⟨v2, e2, h2⟩ := bindS h1
  refine rl.op (x_cat rfl rfl e2) ?_
  refine rl.run 1 rfl ?_
  refine rl.done ?_
  refine RW.ret ?_
  cases h2
  exact RRet.mk rfl .str (by decide)
theorem law_spec_l01In {x0 : Int} {x1 : Int} {x2 : Int} {r : Bool} (hF : F_spec_l01In x0 x1 x2 = some r) : PCalls Try.prog 37 [.int .i64 x0, .int .i64 x1, .int .i64 x2] (.bool r) := by
  refine PCalls.of_r k_spec_l01In rfl ?_
  unfold F_spec_l01In at hF
  refine RW.sreg ?_
  refine rl.run 1 rfl ?_
  refine rl.done ?_
  refine RW.sreg ?_
  refine rl.run 2 rfl ?_
  refine rl.gen rfl rfl fun b hb => ?_
  cases b
  · have h1 := iteBF hF hb
    refine rl.run 6 rfl ?_
    refine rl.done ?_
    refine RW.keep [6] (a' := [(6, .bool false)]) (H' := []) rfl rfl ?_
    refine RW.ret ?_
    cases h1
    exact RRet.mk rfl .bool (by decide)
  · have h2 := iteBT hF hb
    refine rl.run 6 rfl ?_
    refine rl.done ?_
    refine RW.keep [6] (a' := [(6, .bool (decide (x0 ≤ x2)))]) (H' := []) rfl rfl ?_
    refine RW.ret ?_
    cases h2
    exact RRet.mk rfl .bool (by decide)
theorem law_spec_WordOk {x0 : List UInt8} {r : Bool} (hF : F_spec_WordOk x0 = some r) : PCalls Try.prog 103 [.str x0] (.bool r) := by
  refine PCalls.of_r k_spec_WordOk rfl ?_
  unfold F_spec_WordOk at hF
  refine RW.sreg ?_
  refine rl.run 1 rfl ?_
  refine rl.done ?_
  refine RW.seq ?_
  refine RW.sreg ?_
  refine rl.run 1 rfl ?_
  refine rl.done ?_
  obtain ⟨y6, ey6, h2⟩ := bindS hF
  refine RW.cutq (σ := Unit) (fun y2 => [(0, .str x0)]) (fun y2 => []) (fun y => y6 = .inr y) (fun _ _ _ _ g h => RW.gh g h) ?_ ?_
  · refine RW.blk ?_
    refine RW.iter (σ := Int) ey6 (fun s1 => [(0, .str x0), (3, .int .i64 s1)]) (fun s1 => []) (Gh.ren0 [] .nil rfl (.cons rfl (.dat .str) (.cons rfl (.dat .int) .nil))) (fun s1 B o hS1 hB1 hE1 => ?_)
    unfold S_spec_WordOk_1 at hS1
    refine RW.seq ?_
    refine RW.sreg ?_
    refine rl.run 3 rfl ?_
    refine rl.gen rfl rfl fun b hb => ?_
    cases b
    · have h3 := iteBF hS1 hb
      refine rl.done ?_
      refine RW.cond_f rfl ?_
      refine RW.exit ?_
      refine blkA_eq ?_
      cases h3
      exact ⟨_, (hE1 _ rfl).symm, (Gh.ren0 [] .nil rfl (.cons rfl (.dat .str) .nil))⟩
    · have h4 := iteBT hS1 hb
      refine rl.done ?_
      refine RW.cond_t rfl ?_
      refine RW.skip ?_
      refine RW.seq ?_
      refine RW.blk ?_
      refine RW.seq ?_
      obtain ⟨y3, ey3, h5⟩ := bindS h4
      refine RW.cutq (σ := Bool) (fun y3 => [(0, .str x0), (3, .int .i64 s1), (19, .bool y3)]) (fun y3 => []) (fun y => y3 = y) (fun _ _ _ _ g h => RW.gh g h) ?_ ?_
      · refine RW.reg ?_
        refine rl.run 2 rfl ?_
        obtain ⟨v4, e4, h6⟩ := bindS ey3
        refine rl.op (x_idx rfl rfl e4) ?_
        refine rl.gen rfl rfl fun b hb => ?_
        cases b
        · have h7 := iteBF h6 hb
          refine rl.run 3 rfl ?_
          obtain ⟨v5, e5, h8⟩ := bindS h7
          refine rl.gop rfl (x_idx rfl rfl e5) ?_
          refine rl.gen rfl rfl fun b hb => ?_
          cases b
          · have h9 := iteBF h8 hb
            refine rl.run 1 rfl ?_
            refine rl.done ?_
            cases h9
            exact ⟨_, rfl, (Gh.ren0 [] .nil rfl (.cons rfl (.dat .str) (.cons rfl (.dat .int) (.cons rfl (.dat .bool) .nil))))⟩
          · have h10 := iteBT h8 hb
            refine rl.run 1 rfl ?_
            refine rl.done ?_
            cases h10
            exact ⟨_, rfl, (Gh.ren0 [] .nil rfl (.cons rfl (.dat .str) (.cons rfl (.dat .int) (.cons rfl (.dat .bool) .nil))))⟩
        · have h11 := iteBT h6 hb
          refine rl.run 6 rfl ?_
          refine rl.done ?_
          cases h11
          exact ⟨_, rfl, (Gh.ren0 [] .nil rfl (.cons rfl (.dat .str) (.cons rfl (.dat .int) (.cons rfl (.dat .bool) .nil))))⟩
      · intro y hC
        subst hC
        cases hb : y3
        · have h12 := iteBF h5 hb
          refine RW.cond_f rfl ?_
          refine RW.skip ?_
          refine RW.reg ?_
          refine rl.run 3 rfl ?_
          refine rl.done ?_
          cases h12
          exact hB1 _ rfl _ _ (Gh.ren0 [] .nil rfl (.cons rfl (.dat .str) (.cons rfl (.dat .int) .nil)))
        · have h13 := iteBT h5 hb
          refine RW.cond_t rfl ?_
          refine RW.sreg ?_
          refine rl.run 1 rfl ?_
          refine rl.done ?_
          refine RW.ret ?_
          cases h13
          have h14 := elimL h2 (hE1 _ rfl)
          cases h14
          exact RRet.mk rfl .bool (by decide)
  · intro y2 hC
    have h2 := elimR h2 hC
    refine RW.sreg ?_
    refine rl.run 2 rfl ?_
    obtain ⟨v7, e7, h15⟩ := bindS h2
    refine rl.call rfl rfl rfl (CallW.val (r' := .bool v7) ok_spec_l01In (law_spec_l01In e7) (.cons .int (.cons .int (.cons .int .nil))) .refl ?_)
    refine rl.run 1 rfl ?_
    refine rl.done ?_
    refine RW.ret ?_
    cases h15
    exact RRet.mk rfl .bool (by decide)
theorem law_spec_RecOk {x0 : TRec} {r : Bool} (hF : F_spec_RecOk x0 = some r) : PCalls Try.prog 83 [.agg (enc_TRec false x0)] (.bool r) := by
  refine PCalls.of_r k_spec_RecOk rfl ?_
  unfold F_spec_RecOk at hF
  refine RW.sreg ?_
  refine rl.run 2 rfl ?_
  refine rl.done ?_
  refine RW.seq ?_
  refine RW.seq ?_
  obtain ⟨y1, ey1, h1⟩ := bindS hF
  refine RW.cutq (σ := Bool) (fun y1 => [(1, .ptr 0 0), (15, .bool y1)]) (fun y1 => [some ⟨[.int .i64 x0.Kind, .int .i64 x0.Valid, .int .i64 x0.Uid, .int .i64 x0.Next, .int .i64 x0.Flags, .str x0.User, .str x0.Name, .str x0.Text], 0⟩]) (fun y => y1 = y) (fun _ _ _ _ g h => RW.gh g h) ?_ ?_
  · refine RW.reg ?_
    refine rl.run 2 rfl ?_
    obtain ⟨v2, e2, h2⟩ := bindS ey1
    refine rl.call rfl rfl rfl (CallW.val (r' := .bool v2) ok_spec_l01In (law_spec_l01In e2) (.cons .int (.cons .int (.cons .int .nil))) .refl ?_)
    cases hb : v2
    · have h3 := iteBF h2 hb
      refine rl.run 7 rfl ?_
      refine rl.done ?_
      cases h3
      exact ⟨_, rfl, (Gh.ren0 [0] (.cells rfl rfl (.keep .int (.keep .int (.keep .int (.keep .int (.keep .int (.keep .str (.keep .str (.keep .str .nil)))))))) .nil) rfl (.cons rfl (.ptr rfl) (.cons rfl (.dat .bool) .nil)))⟩
    · have h4 := iteBT h2 hb
      refine rl.run 4 rfl ?_
      obtain ⟨v3, e3, h5⟩ := bindS h4
      refine rl.call rfl rfl rfl (CallW.val (r' := .bool v3) ok_spec_l01In (law_spec_l01In e3) (.cons .int (.cons .int (.cons .int .nil))) .refl ?_)
      cases hb : v3
      · have h6 := iteBF h5 hb
        refine rl.run 2 rfl ?_
        refine rl.done ?_
        cases h6
        exact ⟨_, rfl, (Gh.ren0 [0] (.cells rfl rfl (.keep .int (.keep .int (.keep .int (.keep .int (.keep .int (.keep .str (.keep .str (.keep .str .nil)))))))) .nil) rfl (.cons rfl (.ptr rfl) (.cons rfl (.dat .bool) .nil)))⟩
      · have h7 := iteBT h5 hb
        refine rl.run 2 rfl ?_
        refine rl.done ?_
        cases h7
        exact ⟨_, rfl, (Gh.ren0 [0] (.cells rfl rfl (.keep .int (.keep .int (.keep .int (.keep .int (.keep .int (.keep .str (.keep .str (.keep .str .nil)))))))) .nil) rfl (.cons rfl (.ptr rfl) (.cons rfl (.dat .bool) .nil)))⟩
  · intro y hC
    subst hC
    cases hb : y1
    · have h8 := iteBF h1 hb
      refine RW.cond_f rfl ?_
      refine RW.skip ?_
      refine RW.sreg ?_
      refine rl.run 2 rfl ?_
      refine rl.gen rfl rfl fun b hb => ?_
      cases b
      · have h9 := iteBF h8 hb
        refine rl.run 1 rfl ?_
        refine rl.done ?_
        refine RW.seq ?_
        obtain ⟨y4, ey4, h10⟩ := bindS h9
        refine RW.cutq (σ := Bool) (fun y4 => [(1, .ptr 0 0), (3, .bool false), (4, .bool y4)]) (fun y4 => [some ⟨[.int .i64 x0.Kind, .int .i64 x0.Valid, .int .i64 x0.Uid, .int .i64 x0.Next, .int .i64 x0.Flags, .str x0.User, .str x0.Name, .str x0.Text], 0⟩]) (fun y => y4 = y) (fun _ _ _ _ g h => RW.gh g h) ?_ ?_
        · refine RW.reg ?_
          refine rl.run 2 rfl ?_
          refine rl.gen rfl rfl fun b hb => ?_
          cases b
          · have h11 := iteBF ey4 hb
            refine rl.run 3 rfl ?_
            refine rl.gen rfl rfl fun b hb => ?_
            cases b
            · have h12 := iteBF h11 hb
              refine rl.run 4 rfl ?_
              refine rl.gen rfl rfl fun b hb => ?_
              cases b
              · have h13 := iteBF h12 hb
                refine rl.run 2 rfl ?_
                refine rl.done ?_
                cases h13
                exact ⟨_, rfl, (Gh.ren0 [0] (.cells rfl rfl (.keep .int (.keep .int (.keep .int (.keep .int (.keep .int (.keep .str (.keep .str (.keep .str .nil)))))))) .nil) rfl (.cons rfl (.ptr rfl) (.cons rfl (.dat .bool) (.cons rfl (.dat .bool) .nil))))⟩
              · have h14 := iteBT h12 hb
                refine rl.run 2 rfl ?_
                refine rl.done ?_
                cases h14
                exact ⟨_, rfl, (Gh.ren0 [0] (.cells rfl rfl (.keep .int (.keep .int (.keep .int (.keep .int (.keep .int (.keep .str (.keep .str (.keep .str .nil)))))))) .nil) rfl (.cons rfl (.ptr rfl) (.cons rfl (.dat .bool) (.cons rfl (.dat .bool) .nil))))⟩
            · have h15 := iteBT h11 hb
              refine rl.run 7 rfl ?_
              refine rl.done ?_
              cases h15
              exact ⟨_, rfl, (Gh.ren0 [0] (.cells rfl rfl (.keep .int (.keep .int (.keep .int (.keep .int (.keep .int (.keep .str (.keep .str (.keep .str .nil)))))))) .nil) rfl (.cons rfl (.ptr rfl) (.cons rfl (.dat .bool) (.cons rfl (.dat .bool) .nil))))⟩
          · have h16 := iteBT ey4 hb
            refine rl.run 11 rfl ?_
            refine rl.done ?_
            cases h16
            exact ⟨_, rfl, (Gh.ren0 [0] (.cells rfl rfl (.keep .int (.keep .int (.keep .int (.keep .int (.keep .int (.keep .str (.keep .str (.keep .str .nil)))))))) .nil) rfl (.cons rfl (.ptr rfl) (.cons rfl (.dat .bool) (.cons rfl (.dat .bool) .nil))))⟩
        · intro y hC
          subst hC
          refine RW.seq ?_
          obtain ⟨y5, ey5, h17⟩ := bindS h10
          refine RW.cutq (σ := Bool) (fun y5 => [(1, .ptr 0 0), (3, .bool false), (4, .bool y4), (5, .bool y5)]) (fun y5 => [some ⟨[.int .i64 x0.Kind, .int .i64 x0.Valid, .int .i64 x0.Uid, .int .i64 x0.Next, .int .i64 x0.Flags, .str x0.User, .str x0.Name, .str x0.Text], 0⟩]) (fun y => y5 = y) (fun _ _ _ _ g h => RW.gh g h) ?_ ?_
          · refine RW.reg ?_
            refine rl.run 2 rfl ?_
            refine rl.gen rfl rfl fun b hb => ?_
            cases b
            · have h18 := iteBF ey5 hb
              refine rl.run 3 rfl ?_
              refine rl.gen rfl rfl fun b hb => ?_
              cases b
              · have h19 := iteBF h18 hb
                refine rl.run 2 rfl ?_
                refine rl.done ?_
                cases h19
                exact ⟨_, rfl, (Gh.ren0 [0] (.cells rfl rfl (.keep .int (.keep .int (.keep .int (.keep .int (.keep .int (.keep .str (.keep .str (.keep .str .nil)))))))) .nil) rfl (.cons rfl (.ptr rfl) (.cons rfl (.dat .bool) (.cons rfl (.dat .bool) (.cons rfl (.dat .bool) .nil)))))⟩
              · have h20 := iteBT h18 hb
                refine rl.run 2 rfl ?_
                refine rl.done ?_
                cases h20
                exact ⟨_, rfl, (Gh.ren0 [0] (.cells rfl rfl (.keep .int (.keep .int (.keep .int (.keep .int (.keep .int (.keep .str (.keep .str (.keep .str .nil)))))))) .nil) rfl (.cons rfl (.ptr rfl) (.cons rfl (.dat .bool) (.cons rfl (.dat .bool) (.cons rfl (.dat .bool) .nil)))))⟩
            · have h21 := iteBT ey5 hb
              refine rl.run 6 rfl ?_
              refine rl.done ?_
              cases h21
              exact ⟨_, rfl, (Gh.ren0 [0] (.cells rfl rfl (.keep .int (.keep .int (.keep .int (.keep .int (.keep .int (.keep .str (.keep .str (.keep .str .nil)))))))) .nil) rfl (.cons rfl (.ptr rfl) (.cons rfl (.dat .bool) (.cons rfl (.dat .bool) (.cons rfl (.dat .bool) .nil)))))⟩
          · intro y hC
            subst hC
            refine RW.seq ?_
            refine RW.seq ?_
            obtain ⟨y6, ey6, h22⟩ := bindS h17
            refine RW.cutq (σ := Bool) (fun y6 => [(1, .ptr 0 0), (4, .bool y4), (5, .bool y5), (77, .bool y6)]) (fun y6 => [some ⟨[.int .i64 x0.Kind, .int .i64 x0.Valid, .int .i64 x0.Uid, .int .i64 x0.Next, .int .i64 x0.Flags, .str x0.User, .str x0.Name, .str x0.Text], 0⟩]) (fun y => y6 = y) (fun _ _ _ _ g h => RW.gh g h) ?_ ?_
            · refine RW.reg ?_
              refine rl.run 25 rfl ?_
              refine rl.gen rfl rfl fun b hb => ?_
              cases b
              · have h23 := iteBF ey6 hb
                refine rl.run 3 rfl ?_
                refine rl.gen rfl rfl fun b hb => ?_
                cases b
                · have h24 := iteBF h23 hb
                  refine rl.run 4 rfl ?_
                  refine rl.gen rfl rfl fun b hb => ?_
                  cases b
                  · have h25 := iteBF h24 hb
                    refine rl.run 3 rfl ?_
                    refine rl.done ?_
                    cases h25
                    exact ⟨_, rfl, (Gh.ren0 [0] (.cells rfl rfl (.keep .int (.keep .int (.keep .int (.keep .int (.keep .int (.keep .str (.keep .str (.keep .str .nil)))))))) .nil) rfl (.cons rfl (.ptr rfl) (.cons rfl (.dat .bool) (.cons rfl (.dat .bool) (.cons rfl (.dat .bool) .nil)))))⟩
                  · have h26 := iteBT h24 hb
                    refine rl.run 3 rfl ?_
                    refine rl.done ?_
                    cases h26
                    exact ⟨_, rfl, (Gh.ren0 [0] (.cells rfl rfl (.keep .int (.keep .int (.keep .int (.keep .int (.keep .int (.keep .str (.keep .str (.keep .str .nil)))))))) .nil) rfl (.cons rfl (.ptr rfl) (.cons rfl (.dat .bool) (.cons rfl (.dat .bool) (.cons rfl (.dat .bool) .nil)))))⟩
                · have h27 := iteBT h23 hb
                  refine rl.run 8 rfl ?_
                  refine rl.done ?_
                  cases h27
                  exact ⟨_, rfl, (Gh.ren0 [0] (.cells rfl rfl (.keep .int (.keep .int (.keep .int (.keep .int (.keep .int (.keep .str (.keep .str (.keep .str .nil)))))))) .nil) rfl (.cons rfl (.ptr rfl) (.cons rfl (.dat .bool) (.cons rfl (.dat .bool) (.cons rfl (.dat .bool) .nil)))))⟩
              · have h28 := iteBT ey6 hb
                refine rl.run 12 rfl ?_
                refine rl.done ?_
                cases h28
                exact ⟨_, rfl, (Gh.ren0 [0] (.cells rfl rfl (.keep .int (.keep .int (.keep .int (.keep .int (.keep .int (.keep .str (.keep .str (.keep .str .nil)))))))) .nil) rfl (.cons rfl (.ptr rfl) (.cons rfl (.dat .bool) (.cons rfl (.dat .bool) (.cons rfl (.dat .bool) .nil)))))⟩
            · intro y hC
              subst hC
              cases hb : y6
              · have h29 := iteBF h22 hb
                refine RW.cond_f rfl ?_
                refine RW.skip ?_
                refine RW.seq ?_
                refine RW.seq ?_
                obtain ⟨y7, ey7, h30⟩ := bindS h29
                refine RW.cutq (σ := Bool) (fun y7 => [(1, .ptr 0 0), (5, .bool y5), (93, .bool y7)]) (fun y7 => [some ⟨[.int .i64 x0.Kind, .int .i64 x0.Valid, .int .i64 x0.Uid, .int .i64 x0.Next, .int .i64 x0.Flags, .str x0.User, .str x0.Name, .str x0.Text], 0⟩]) (fun y => y7 = y) (fun _ _ _ _ g h => RW.gh g h) ?_ ?_
                · refine RW.reg ?_
                  refine rl.run 2 rfl ?_
                  cases hb : y4
                  · have h31 := iteBF ey7 hb
                    refine rl.run 11 rfl ?_
                    refine rl.gen rfl rfl fun b hb => ?_
                    cases b
                    · have h32 := iteBF h31 hb
                      refine rl.run 2 rfl ?_
                      refine rl.done ?_
                      cases h32
                      exact ⟨_, rfl, (Gh.ren0 [0] (.cells rfl rfl (.keep .int (.keep .int (.keep .int (.keep .int (.keep .int (.keep .str (.keep .str (.keep .str .nil)))))))) .nil) rfl (.cons rfl (.ptr rfl) (.cons rfl (.dat .bool) (.cons rfl (.dat .bool) .nil))))⟩
                    · have h33 := iteBT h31 hb
                      refine rl.run 2 rfl ?_
                      refine rl.done ?_
                      cases h33
                      exact ⟨_, rfl, (Gh.ren0 [0] (.cells rfl rfl (.keep .int (.keep .int (.keep .int (.keep .int (.keep .int (.keep .str (.keep .str (.keep .str .nil)))))))) .nil) rfl (.cons rfl (.ptr rfl) (.cons rfl (.dat .bool) (.cons rfl (.dat .bool) .nil))))⟩
                  · have h34 := iteBT ey7 hb
                    refine rl.run 2 rfl ?_
                    obtain ⟨v8, e8, h35⟩ := bindS h34
                    refine rl.call rfl rfl rfl (CallW.val (r' := .bool v8) ok_spec_l01In (law_spec_l01In e8) (.cons .int (.cons .int (.cons .int .nil))) .refl ?_)
                    cases hb : v8
                    · have h36 := iteBF h35 hb
                      refine rl.run 11 rfl ?_
                      refine rl.done ?_
                      cases h36
                      exact ⟨_, rfl, (Gh.ren0 [0] (.cells rfl rfl (.keep .int (.keep .int (.keep .int (.keep .int (.keep .int (.keep .str (.keep .str (.keep .str .nil)))))))) .nil) rfl (.cons rfl (.ptr rfl) (.cons rfl (.dat .bool) (.cons rfl (.dat .bool) .nil))))⟩
                    · have h37 := iteBT h35 hb
                      refine rl.run 11 rfl ?_
                      refine rl.done ?_
                      cases h37
                      exact ⟨_, rfl, (Gh.ren0 [0] (.cells rfl rfl (.keep .int (.keep .int (.keep .int (.keep .int (.keep .int (.keep .str (.keep .str (.keep .str .nil)))))))) .nil) rfl (.cons rfl (.ptr rfl) (.cons rfl (.dat .bool) (.cons rfl (.dat .bool) .nil))))⟩
                · intro y hC
                  subst hC
                  cases hb : y7
                  · have h38 := iteBF h30 hb
                    refine RW.cond_f rfl ?_
                    refine RW.skip ?_
                    refine RW.seq ?_
                    refine RW.seq ?_
                    obtain ⟨y9, ey9, h39⟩ := bindS h38
                    refine RW.cutq (σ := Bool) (fun y9 => [(1, .ptr 0 0), (109, .bool y9)]) (fun y9 => [some ⟨[.int .i64 x0.Kind, .int .i64 x0.Valid, .int .i64 x0.Uid, .int .i64 x0.Next, .int .i64 x0.Flags, .str x0.User, .str x0.Name, .str x0.Text], 0⟩]) (fun y => y9 = y) (fun _ _ _ _ g h => RW.gh g h) ?_ ?_
                    · refine RW.reg ?_
                      refine rl.run 2 rfl ?_
                      cases hb : y5
                      · have h40 := iteBF ey9 hb
                        refine rl.run 11 rfl ?_
                        refine rl.gen rfl rfl fun b hb => ?_
                        cases b
                        · have h41 := iteBF h40 hb
                          refine rl.run 2 rfl ?_
                          refine rl.done ?_
                          cases h41
                          exact ⟨_, rfl, (Gh.ren0 [0] (.cells rfl rfl (.keep .int (.keep .int (.keep .int (.keep .int (.keep .int (.keep .str (.keep .str (.keep .str .nil)))))))) .nil) rfl (.cons rfl (.ptr rfl) (.cons rfl (.dat .bool) .nil)))⟩
                        · have h42 := iteBT h40 hb
                          refine rl.run 2 rfl ?_
                          refine rl.done ?_
                          cases h42
                          exact ⟨_, rfl, (Gh.ren0 [0] (.cells rfl rfl (.keep .int (.keep .int (.keep .int (.keep .int (.keep .int (.keep .str (.keep .str (.keep .str .nil)))))))) .nil) rfl (.cons rfl (.ptr rfl) (.cons rfl (.dat .bool) .nil)))⟩
                      · have h43 := iteBT ey9 hb
                        refine rl.run 2 rfl ?_
                        obtain ⟨v10, e10, h44⟩ := bindS h43
                        refine rl.call rfl rfl rfl (CallW.val (r' := .bool v10) ok_spec_l01In (law_spec_l01In e10) (.cons .int (.cons .int (.cons .int .nil))) .refl ?_)
                        cases hb : v10
                        · have h45 := iteBF h44 hb
                          refine rl.run 11 rfl ?_
                          refine rl.done ?_
                          cases h45
                          exact ⟨_, rfl, (Gh.ren0 [0] (.cells rfl rfl (.keep .int (.keep .int (.keep .int (.keep .int (.keep .int (.keep .str (.keep .str (.keep .str .nil)))))))) .nil) rfl (.cons rfl (.ptr rfl) (.cons rfl (.dat .bool) .nil)))⟩
                        · have h46 := iteBT h44 hb
                          refine rl.run 11 rfl ?_
                          refine rl.done ?_
                          cases h46
                          exact ⟨_, rfl, (Gh.ren0 [0] (.cells rfl rfl (.keep .int (.keep .int (.keep .int (.keep .int (.keep .int (.keep .str (.keep .str (.keep .str .nil)))))))) .nil) rfl (.cons rfl (.ptr rfl) (.cons rfl (.dat .bool) .nil)))⟩
                    · intro y hC
                      subst hC
                      cases hb : y9
                      · have h47 := iteBF h39 hb
                        refine RW.cond_f rfl ?_
                        refine RW.skip ?_
                        refine RW.seq ?_
                        refine RW.sreg ?_
                        refine rl.run 2 rfl ?_
                        refine rl.gen rfl rfl fun b hb => ?_
                        cases b
                        · have h48 := iteBF h47 hb
                          refine rl.done ?_
                          refine RW.cond_f rfl ?_
                          refine RW.skip ?_
                          refine RW.sreg ?_
                          refine rl.run 4 rfl ?_
                          refine rl.done ?_
                          refine RW.ret ?_
                          cases h48
                          exact RRet.mk rfl .bool (by decide)
                        · have h49 := iteBT h47 hb
                          refine rl.done ?_
                          refine RW.cond_t rfl ?_
                          refine RW.sreg ?_
                          refine rl.run 5 rfl ?_
                          refine rl.done ?_
                          refine RW.ret ?_
                          cases h49
                          exact RRet.mk rfl .bool (by decide)
                      · have h50 := iteBT h39 hb
                        refine RW.cond_t rfl ?_
                        refine RW.sreg ?_
                        refine rl.run 1 rfl ?_
                        refine rl.done ?_
                        refine RW.ret ?_
                        cases h50
                        exact RRet.mk rfl .bool (by decide)
                  · have h51 := iteBT h30 hb
                    refine RW.cond_t rfl ?_
                    refine RW.sreg ?_
                    refine rl.run 1 rfl ?_
                    refine rl.done ?_
                    refine RW.ret ?_
                    cases h51
                    exact RRet.mk rfl .bool (by decide)
              · have h52 := iteBT h22 hb
                refine RW.cond_t rfl ?_
                refine RW.sreg ?_
                refine rl.run 1 rfl ?_
                refine rl.done ?_
                refine RW.ret ?_
                cases h52
                exact RRet.mk rfl .bool (by decide)
      · have h53 := iteBT h8 hb
        refine rl.run 1 rfl ?_
        refine rl.done ?_
        refine RW.seq ?_
        obtain ⟨y11, ey11, h54⟩ := bindS h53
        refine RW.cutq (σ := Bool) (fun y11 => [(1, .ptr 0 0), (3, .bool true), (4, .bool y11)]) (fun y11 => [some ⟨[.int .i64 x0.Kind, .int .i64 x0.Valid, .int .i64 x0.Uid, .int .i64 x0.Next, .int .i64 x0.Flags, .str x0.User, .str x0.Name, .str x0.Text], 0⟩]) (fun y => y11 = y) (fun _ _ _ _ g h => RW.gh g h) ?_ ?_
        · refine RW.reg ?_
          refine rl.run 2 rfl ?_
          refine rl.gen rfl rfl fun b hb => ?_
          cases b
          · have h55 := iteBF ey11 hb
            refine rl.run 3 rfl ?_
            refine rl.gen rfl rfl fun b hb => ?_
            cases b
            · have h56 := iteBF h55 hb
              refine rl.run 4 rfl ?_
              refine rl.gen rfl rfl fun b hb => ?_
              cases b
              · have h57 := iteBF h56 hb
                refine rl.run 2 rfl ?_
                refine rl.done ?_
                cases h57
                exact ⟨_, rfl, (Gh.ren0 [0] (.cells rfl rfl (.keep .int (.keep .int (.keep .int (.keep .int (.keep .int (.keep .str (.keep .str (.keep .str .nil)))))))) .nil) rfl (.cons rfl (.ptr rfl) (.cons rfl (.dat .bool) (.cons rfl (.dat .bool) .nil))))⟩
              · have h58 := iteBT h56 hb
                refine rl.run 2 rfl ?_
                refine rl.done ?_
                cases h58
                exact ⟨_, rfl, (Gh.ren0 [0] (.cells rfl rfl (.keep .int (.keep .int (.keep .int (.keep .int (.keep .int (.keep .str (.keep .str (.keep .str .nil)))))))) .nil) rfl (.cons rfl (.ptr rfl) (.cons rfl (.dat .bool) (.cons rfl (.dat .bool) .nil))))⟩
            · have h59 := iteBT h55 hb
              refine rl.run 7 rfl ?_
              refine rl.done ?_
              cases h59
              exact ⟨_, rfl, (Gh.ren0 [0] (.cells rfl rfl (.keep .int (.keep .int (.keep .int (.keep .int (.keep .int (.keep .str (.keep .str (.keep .str .nil)))))))) .nil) rfl (.cons rfl (.ptr rfl) (.cons rfl (.dat .bool) (.cons rfl (.dat .bool) .nil))))⟩
          · have h60 := iteBT ey11 hb
            refine rl.run 11 rfl ?_
            refine rl.done ?_
            cases h60
            exact ⟨_, rfl, (Gh.ren0 [0] (.cells rfl rfl (.keep .int (.keep .int (.keep .int (.keep .int (.keep .int (.keep .str (.keep .str (.keep .str .nil)))))))) .nil) rfl (.cons rfl (.ptr rfl) (.cons rfl (.dat .bool) (.cons rfl (.dat .bool) .nil))))⟩
        · intro y hC
          subst hC
          refine RW.seq ?_
          obtain ⟨y12, ey12, h61⟩ := bindS h54
          refine RW.cutq (σ := Bool) (fun y12 => [(1, .ptr 0 0), (3, .bool true), (4, .bool y11), (5, .bool y12)]) (fun y12 => [some ⟨[.int .i64 x0.Kind, .int .i64 x0.Valid, .int .i64 x0.Uid, .int .i64 x0.Next, .int .i64 x0.Flags, .str x0.User, .str x0.Name, .str x0.Text], 0⟩]) (fun y => y12 = y) (fun _ _ _ _ g h => RW.gh g h) ?_ ?_
          · refine RW.reg ?_
            refine rl.run 2 rfl ?_
            refine rl.gen rfl rfl fun b hb => ?_
            cases b
            · have h62 := iteBF ey12 hb
              refine rl.run 3 rfl ?_
              refine rl.gen rfl rfl fun b hb => ?_
              cases b
              · have h63 := iteBF h62 hb
                refine rl.run 2 rfl ?_
                refine rl.done ?_
                cases h63
                exact ⟨_, rfl, (Gh.ren0 [0] (.cells rfl rfl (.keep .int (.keep .int (.keep .int (.keep .int (.keep .int (.keep .str (.keep .str (.keep .str .nil)))))))) .nil) rfl (.cons rfl (.ptr rfl) (.cons rfl (.dat .bool) (.cons rfl (.dat .bool) (.cons rfl (.dat .bool) .nil)))))⟩
              · have h64 := iteBT h62 hb
                refine rl.run 2 rfl ?_
                refine rl.done ?_
                cases h64
                exact ⟨_, rfl, (Gh.ren0 [0] (.cells rfl rfl (.keep .int (.keep .int (.keep .int (.keep .int (.keep .int (.keep .str (.keep .str (.keep .str .nil)))))))) .nil) rfl (.cons rfl (.ptr rfl) (.cons rfl (.dat .bool) (.cons rfl (.dat .bool) (.cons rfl (.dat .bool) .nil)))))⟩
            · have h65 := iteBT ey12 hb
              refine rl.run 6 rfl ?_
              refine rl.done ?_
              cases h65
              exact ⟨_, rfl, (Gh.ren0 [0] (.cells rfl rfl (.keep .int (.keep .int (.keep .int (.keep .int (.keep .int (.keep .str (.keep .str (.keep .str .nil)))))))) .nil) rfl (.cons rfl (.ptr rfl) (.cons rfl (.dat .bool) (.cons rfl (.dat .bool) (.cons rfl (.dat .bool) .nil)))))⟩
          · intro y hC
            subst hC
            refine RW.seq ?_
            refine RW.seq ?_
            obtain ⟨y13, ey13, h66⟩ := bindS h61
            refine RW.cutq (σ := Bool) (fun y13 => [(1, .ptr 0 0), (4, .bool y11), (5, .bool y12), (77, .bool y13)]) (fun y13 => [some ⟨[.int .i64 x0.Kind, .int .i64 x0.Valid, .int .i64 x0.Uid, .int .i64 x0.Next, .int .i64 x0.Flags, .str x0.User, .str x0.Name, .str x0.Text], 0⟩]) (fun y => y13 = y) (fun _ _ _ _ g h => RW.gh g h) ?_ ?_
            · refine RW.reg ?_
              refine rl.run 4 rfl ?_
              obtain ⟨v14, e14, h67⟩ := bindS ey13
              refine rl.call rfl rfl rfl (CallW.val (r' := .bool v14) ok_spec_WordOk (law_spec_WordOk e14) (.cons .str .nil) .refl ?_)
              cases hb : v14
              · have h68 := iteBF h67 hb
                refine rl.run 33 rfl ?_
                refine rl.done ?_
                cases h68
                exact ⟨_, rfl, (Gh.ren0 [0] (.cells rfl rfl (.keep .int (.keep .int (.keep .int (.keep .int (.keep .int (.keep .str (.keep .str (.keep .str .nil)))))))) .nil) rfl (.cons rfl (.ptr rfl) (.cons rfl (.dat .bool) (.cons rfl (.dat .bool) (.cons rfl (.dat .bool) .nil)))))⟩
              · have h69 := iteBT h67 hb
                refine rl.run 4 rfl ?_
                obtain ⟨v15, e15, h70⟩ := bindS h69
                refine rl.call rfl rfl rfl (CallW.val (r' := .bool v15) ok_spec_WordOk (law_spec_WordOk e15) (.cons .str .nil) .refl ?_)
                cases hb : v15
                · have h71 := iteBF h70 hb
                  refine rl.run 28 rfl ?_
                  refine rl.done ?_
                  cases h71
                  exact ⟨_, rfl, (Gh.ren0 [0] (.cells rfl rfl (.keep .int (.keep .int (.keep .int (.keep .int (.keep .int (.keep .str (.keep .str (.keep .str .nil)))))))) .nil) rfl (.cons rfl (.ptr rfl) (.cons rfl (.dat .bool) (.cons rfl (.dat .bool) (.cons rfl (.dat .bool) .nil)))))⟩
                · have h72 := iteBT h70 hb
                  refine rl.run 5 rfl ?_
                  obtain ⟨v16, e16, h73⟩ := bindS h72
                  refine rl.call rfl rfl rfl (CallW.val (r' := .bool v16) ok_spec_l01In (law_spec_l01In e16) (.cons .int (.cons .int (.cons .int .nil))) .refl ?_)
                  cases hb : v16
                  · have h74 := iteBF h73 hb
                    refine rl.run 22 rfl ?_
                    refine rl.done ?_
                    cases h74
                    exact ⟨_, rfl, (Gh.ren0 [0] (.cells rfl rfl (.keep .int (.keep .int (.keep .int (.keep .int (.keep .int (.keep .str (.keep .str (.keep .str .nil)))))))) .nil) rfl (.cons rfl (.ptr rfl) (.cons rfl (.dat .bool) (.cons rfl (.dat .bool) (.cons rfl (.dat .bool) .nil)))))⟩
                  · have h75 := iteBT h73 hb
                    refine rl.run 22 rfl ?_
                    refine rl.done ?_
                    cases h75
                    exact ⟨_, rfl, (Gh.ren0 [0] (.cells rfl rfl (.keep .int (.keep .int (.keep .int (.keep .int (.keep .int (.keep .str (.keep .str (.keep .str .nil)))))))) .nil) rfl (.cons rfl (.ptr rfl) (.cons rfl (.dat .bool) (.cons rfl (.dat .bool) (.cons rfl (.dat .bool) .nil)))))⟩
            · intro y hC
              subst hC
              cases hb : y13
              · have h76 := iteBF h66 hb
                refine RW.cond_f rfl ?_
                refine RW.skip ?_
                refine RW.seq ?_
                refine RW.seq ?_
                obtain ⟨y17, ey17, h77⟩ := bindS h76
                refine RW.cutq (σ := Bool) (fun y17 => [(1, .ptr 0 0), (5, .bool y12), (93, .bool y17)]) (fun y17 => [some ⟨[.int .i64 x0.Kind, .int .i64 x0.Valid, .int .i64 x0.Uid, .int .i64 x0.Next, .int .i64 x0.Flags, .str x0.User, .str x0.Name, .str x0.Text], 0⟩]) (fun y => y17 = y) (fun _ _ _ _ g h => RW.gh g h) ?_ ?_
                · refine RW.reg ?_
                  refine rl.run 2 rfl ?_
                  cases hb : y11
                  · have h78 := iteBF ey17 hb
                    refine rl.run 11 rfl ?_
                    refine rl.gen rfl rfl fun b hb => ?_
                    cases b
                    · have h79 := iteBF h78 hb
                      refine rl.run 2 rfl ?_
                      refine rl.done ?_
                      cases h79
                      exact ⟨_, rfl, (Gh.ren0 [0] (.cells rfl rfl (.keep .int (.keep .int (.keep .int (.keep .int (.keep .int (.keep .str (.keep .str (.keep .str .nil)))))))) .nil) rfl (.cons rfl (.ptr rfl) (.cons rfl (.dat .bool) (.cons rfl (.dat .bool) .nil))))⟩
                    · have h80 := iteBT h78 hb
                      refine rl.run 2 rfl ?_
                      refine rl.done ?_
                      cases h80
                      exact ⟨_, rfl, (Gh.ren0 [0] (.cells rfl rfl (.keep .int (.keep .int (.keep .int (.keep .int (.keep .int (.keep .str (.keep .str (.keep .str .nil)))))))) .nil) rfl (.cons rfl (.ptr rfl) (.cons rfl (.dat .bool) (.cons rfl (.dat .bool) .nil))))⟩
                  · have h81 := iteBT ey17 hb
                    refine rl.run 2 rfl ?_
                    obtain ⟨v18, e18, h82⟩ := bindS h81
                    refine rl.call rfl rfl rfl (CallW.val (r' := .bool v18) ok_spec_l01In (law_spec_l01In e18) (.cons .int (.cons .int (.cons .int .nil))) .refl ?_)
                    cases hb : v18
                    · have h83 := iteBF h82 hb
                      refine rl.run 11 rfl ?_
                      refine rl.done ?_
                      cases h83
                      exact ⟨_, rfl, (Gh.ren0 [0] (.cells rfl rfl (.keep .int (.keep .int (.keep .int (.keep .int (.keep .int (.keep .str (.keep .str (.keep .str .nil)))))))) .nil) rfl (.cons rfl (.ptr rfl) (.cons rfl (.dat .bool) (.cons rfl (.dat .bool) .nil))))⟩
                    · have h84 := iteBT h82 hb
                      refine rl.run 11 rfl ?_
                      refine rl.done ?_
                      cases h84
                      exact ⟨_, rfl, (Gh.ren0 [0] (.cells rfl rfl (.keep .int (.keep .int (.keep .int (.keep .int (.keep .int (.keep .str (.keep .str (.keep .str .nil)))))))) .nil) rfl (.cons rfl (.ptr rfl) (.cons rfl (.dat .bool) (.cons rfl (.dat .bool) .nil))))⟩
                · intro y hC
                  subst hC
                  cases hb : y17
                  · have h85 := iteBF h77 hb
                    refine RW.cond_f rfl ?_
                    refine RW.skip ?_
                    refine RW.seq ?_
                    refine RW.seq ?_
                    obtain ⟨y19, ey19, h86⟩ := bindS h85
                    refine RW.cutq (σ := Bool) (fun y19 => [(1, .ptr 0 0), (109, .bool y19)]) (fun y19 => [some ⟨[.int .i64 x0.Kind, .int .i64 x0.Valid, .int .i64 x0.Uid, .int .i64 x0.Next, .int .i64 x0.Flags, .str x0.User, .str x0.Name, .str x0.Text], 0⟩]) (fun y => y19 = y) (fun _ _ _ _ g h => RW.gh g h) ?_ ?_
                    · refine RW.reg ?_
                      refine rl.run 2 rfl ?_
                      cases hb : y12
                      · have h87 := iteBF ey19 hb
                        refine rl.run 11 rfl ?_
                        refine rl.gen rfl rfl fun b hb => ?_
                        cases b
                        · have h88 := iteBF h87 hb
                          refine rl.run 2 rfl ?_
                          refine rl.done ?_
                          cases h88
                          exact ⟨_, rfl, (Gh.ren0 [0] (.cells rfl rfl (.keep .int (.keep .int (.keep .int (.keep .int (.keep .int (.keep .str (.keep .str (.keep .str .nil)))))))) .nil) rfl (.cons rfl (.ptr rfl) (.cons rfl (.dat .bool) .nil)))⟩
                        · have h89 := iteBT h87 hb
                          refine rl.run 2 rfl ?_
                          refine rl.done ?_
                          cases h89
                          exact ⟨_, rfl, (Gh.ren0 [0] (.cells rfl rfl (.keep .int (.keep .int (.keep .int (.keep .int (.keep .int (.keep .str (.keep .str (.keep .str .nil)))))))) .nil) rfl (.cons rfl (.ptr rfl) (.cons rfl (.dat .bool) .nil)))⟩
                      · have h90 := iteBT ey19 hb
                        refine rl.run 2 rfl ?_
                        obtain ⟨v20, e20, h91⟩ := bindS h90
                        refine rl.call rfl rfl rfl (CallW.val (r' := .bool v20) ok_spec_l01In (law_spec_l01In e20) (.cons .int (.cons .int (.cons .int .nil))) .refl ?_)
                        cases hb : v20
                        · have h92 := iteBF h91 hb
                          refine rl.run 11 rfl ?_
                          refine rl.done ?_
                          cases h92
                          exact ⟨_, rfl, (Gh.ren0 [0] (.cells rfl rfl (.keep .int (.keep .int (.keep .int (.keep .int (.keep .int (.keep .str (.keep .str (.keep .str .nil)))))))) .nil) rfl (.cons rfl (.ptr rfl) (.cons rfl (.dat .bool) .nil)))⟩
                        · have h93 := iteBT h91 hb
                          refine rl.run 11 rfl ?_
                          refine rl.done ?_
                          cases h93
                          exact ⟨_, rfl, (Gh.ren0 [0] (.cells rfl rfl (.keep .int (.keep .int (.keep .int (.keep .int (.keep .int (.keep .str (.keep .str (.keep .str .nil)))))))) .nil) rfl (.cons rfl (.ptr rfl) (.cons rfl (.dat .bool) .nil)))⟩
                    · intro y hC
                      subst hC
                      cases hb : y19
                      · have h94 := iteBF h86 hb
                        refine RW.cond_f rfl ?_
                        refine RW.skip ?_
                        refine RW.seq ?_
                        refine RW.sreg ?_
                        refine rl.run 2 rfl ?_
                        refine rl.gen rfl rfl fun b hb => ?_
                        cases b
                        · have h95 := iteBF h94 hb
                          refine rl.done ?_
                          refine RW.cond_f rfl ?_
                          refine RW.skip ?_
                          refine RW.sreg ?_
                          refine rl.run 4 rfl ?_
                          refine rl.done ?_
                          refine RW.ret ?_
                          cases h95
                          exact RRet.mk rfl .bool (by decide)
                        · have h96 := iteBT h94 hb
                          refine rl.done ?_
                          refine RW.cond_t rfl ?_
                          refine RW.sreg ?_
                          refine rl.run 5 rfl ?_
                          refine rl.done ?_
                          refine RW.ret ?_
                          cases h96
                          exact RRet.mk rfl .bool (by decide)
                      · have h97 := iteBT h86 hb
                        refine RW.cond_t rfl ?_
                        refine RW.sreg ?_
                        refine rl.run 1 rfl ?_
                        refine rl.done ?_
                        refine RW.ret ?_
                        cases h97
                        exact RRet.mk rfl .bool (by decide)
                  · have h98 := iteBT h77 hb
                    refine RW.cond_t rfl ?_
                    refine RW.sreg ?_
                    refine rl.run 1 rfl ?_
                    refine rl.done ?_
                    refine RW.ret ?_
                    cases h98
                    exact RRet.mk rfl .bool (by decide)
              · have h99 := iteBT h66 hb
                refine RW.cond_t rfl ?_
                refine RW.sreg ?_
                refine rl.run 1 rfl ?_
                refine rl.done ?_
                refine RW.ret ?_
                cases h99
                exact RRet.mk rfl .bool (by decide)
    · have h100 := iteBT h1 hb
      refine RW.cond_t rfl ?_
      refine RW.sreg ?_
      refine rl.run 1 rfl ?_
      refine rl.done ?_
      refine RW.ret ?_
      cases h100
      exact RRet.mk rfl .bool (by decide)
theorem law_spec_RecText {x0 : TRec} {r : (List UInt8) × Bool} (hF : F_spec_RecText x0 = some r) : PCalls Try.prog 76 [.agg (enc_TRec false x0)] (.tup [.str r.1, .bool r.2]) := by
  refine PCalls.of_r k_spec_RecText rfl ?_
  unfold F_spec_RecText at hF
  refine RW.sreg ?_
  refine rl.run 3 rfl ?_
  refine rl.done ?_
  refine RW.seq ?_
  refine RW.sreg ?_
  refine rl.run 1 rfl ?_
  obtain ⟨v1, e1, h1⟩ := bindS hF
  refine rl.call rfl rfl rfl (CallW.val (r' := .bool v1) ok_spec_RecOk (law_spec_RecOk e1) (.cons (DFL.agg (.cons .int (.cons .int (.cons .int (.cons .int (.cons .int (.cons .str (.cons .str (.cons .str .nil))))))))) .nil) .refl ?_)
  cases hb : v1
  · have h2 := iteBF h1 hb
    refine rl.run 1 rfl ?_
    refine rl.done ?_
    refine RW.cond_t rfl ?_
    refine RW.sreg ?_
    refine rl.run 2 rfl ?_
    refine rl.done ?_
    refine RW.ret ?_
    cases h2
    exact RRet.mk rfl (OutT.tup (.cons .str (.cons .bool .nil))) (by decide)
  · have h3 := iteBT h1 hb
    refine rl.run 1 rfl ?_
    refine rl.done ?_
    refine RW.cond_f rfl ?_
    refine RW.skip ?_
    refine RW.sdrw ?_
    refine rdraw.op rfl rfl ?_
    refine rdraw.op rfl rfl ?_
    refine rdraw.op rfl rfl ?_
    refine rdraw.chn rfl rfl ?_
    refine rdraw.op rfl (x_cvb_sl (o := true) (l := [IntKind.u8.wrap x0.Kind]) rfl rfl) ?_
    refine rdraw.opA rfl rfl (.here (.rx rfl) .nil) ?_
    refine rdraw.opA rfl rfl (.here (.rx rfl) .nil) ?_
    obtain ⟨v2, e2, h4⟩ := bindS h3
    refine rdraw.callA rfl rfl rfl (CallW.val (r' := .str v2) ok_spec_l01Var (law_spec_l01Var e2) (.cons .int .nil) .refl ⟨rfl, (.here (.cl rfl rfl (CallW.val (r' := .str v2) ok_spec_l01Var (law_spec_l01Var e2) (.cons .int .nil) .refl ⟨rfl, rfl⟩)) .nil), ?_⟩)
    obtain ⟨v3, e3, h5⟩ := bindS h4
    refine rdraw.op rfl (x_cat rfl rfl e3) ?_
    refine rdraw.opA rfl rfl (.here (.rx rfl) .nil) ?_
    refine rdraw.opA rfl rfl (.here (.rx rfl) .nil) ?_
    obtain ⟨v4, e4, h6⟩ := bindS h5
    refine rdraw.callA rfl rfl rfl (CallW.val (r' := .str v4) ok_spec_l01Var (law_spec_l01Var e4) (.cons .int .nil) .refl ⟨rfl, (.here (.cl rfl rfl (CallW.val (r' := .str v4) ok_spec_l01Var (law_spec_l01Var e4) (.cons .int .nil) .refl ⟨rfl, rfl⟩)) .nil), ?_⟩)
    obtain ⟨v5, e5, h7⟩ := bindS h6
    refine rdraw.op rfl (x_cat rfl rfl e5) ?_
    refine rdraw.opA rfl rfl (.here (.rx rfl) .nil) ?_
    refine rdraw.opA rfl rfl (.here (.rx rfl) .nil) ?_
    obtain ⟨v6, e6, h8⟩ := bindS h7
    refine rdraw.callA rfl rfl rfl (CallW.val (r' := .str v6) ok_spec_l01Var (law_spec_l01Var e6) (.cons .int .nil) .refl ⟨rfl, (.here (.cl rfl rfl (CallW.val (r' := .str v6) ok_spec_l01Var (law_spec_l01Var e6) (.cons .int .nil) .refl ⟨rfl, rfl⟩)) .nil), ?_⟩)
    obtain ⟨v7, e7, h9⟩ := bindS h8
    refine rdraw.op rfl (x_cat rfl rfl e7) ?_
    refine rdraw.opA rfl rfl (.here (.rx rfl) .nil) ?_
    refine rdraw.opA rfl rfl (.here (.rx rfl) .nil) ?_
    obtain ⟨v8, e8, h10⟩ := bindS h9
    refine rdraw.callA rfl rfl rfl (CallW.val (r' := .str v8) ok_spec_l01Var (law_spec_l01Var e8) (.cons .int .nil) .refl ⟨rfl, (.here (.cl rfl rfl (CallW.val (r' := .str v8) ok_spec_l01Var (law_spec_l01Var e8) (.cons .int .nil) .refl ⟨rfl, rfl⟩)) .nil), ?_⟩)
    obtain ⟨v9, e9, h11⟩ := bindS h10
    refine rdraw.op rfl (x_cat rfl rfl e9) ?_
    refine rdraw.opA rfl rfl (.here (.rx rfl) .nil) ?_
    refine rdraw.opA rfl rfl (.here (.rx rfl) .nil) ?_
    obtain ⟨v10, e10, h12⟩ := bindS h11
    refine rdraw.callA rfl rfl rfl (CallW.val (r' := .str v10) ok_spec_l06Short (law_spec_l06Short e10) (.cons .str .nil) .refl ⟨rfl, (.here (.cl rfl rfl (CallW.val (r' := .str v10) ok_spec_l06Short (law_spec_l06Short e10) (.cons .str .nil) .refl ⟨rfl, rfl⟩)) .nil), ?_⟩)
    obtain ⟨v11, e11, h13⟩ := bindS h12
    refine rdraw.op rfl (x_cat rfl rfl e11) ?_
    refine rdraw.opA rfl rfl (.here (.rx rfl) .nil) ?_
    refine rdraw.opA rfl rfl (.here (.rx rfl) .nil) ?_
    obtain ⟨v12, e12, h14⟩ := bindS h13
    refine rdraw.callA rfl rfl rfl (CallW.val (r' := .str v12) ok_spec_l06Short (law_spec_l06Short e12) (.cons .str .nil) .refl ⟨rfl, (.here (.cl rfl rfl (CallW.val (r' := .str v12) ok_spec_l06Short (law_spec_l06Short e12) (.cons .str .nil) .refl ⟨rfl, rfl⟩)) .nil), ?_⟩)
    obtain ⟨v13, e13, h15⟩ := bindS h14
    refine rdraw.op rfl (x_cat rfl rfl e13) ?_
    refine rdraw.opA rfl rfl (.here (.rx rfl) .nil) ?_
    refine rdraw.opA rfl rfl (.here (.rx rfl) .nil) ?_
    obtain ⟨v14, e14, h16⟩ := bindS h15
    refine rdraw.callA rfl rfl rfl (CallW.val (r' := .str v14) ok_spec_l06Short (law_spec_l06Short e14) (.cons .str .nil) .refl ⟨rfl, (.here (.cl rfl rfl (CallW.val (r' := .str v14) ok_spec_l06Short (law_spec_l06Short e14) (.cons .str .nil) .refl ⟨rfl, rfl⟩)) .nil), ?_⟩)
    obtain ⟨v15, e15, h17⟩ := bindS h16
    refine rdraw.op rfl (x_cat rfl rfl e15) ?_
    refine rdraw.op rfl rfl ?_
    refine rdraw.op rfl rfl ?_
    refine rdraw.done ?_
    refine RW.keep [2, 3] (a' := [(2, .str v15), (3, .bool true)]) (H' := [some ⟨[.int .i64 x0.Kind, .int .i64 x0.Valid, .int .i64 x0.Uid, .int .i64 x0.Next, .int .i64 x0.Flags, .str x0.User, .str x0.Name, .str x0.Text], 0⟩, some ⟨fl (encB true) [IntKind.u8.wrap x0.Kind], 1⟩]) rfl rfl ?_
    refine RW.ret ?_
    cases h17
    exact RRet.mk rfl (OutT.tup (.cons .str (.cons .bool .nil))) (by decide)
theorem law_spec_FrameOk {x0 : TFrame} {r : Bool} (hF : F_spec_FrameOk x0 = some r) : PCalls Try.prog 77 [.agg (enc_TFrame false x0)] (.bool r) := by
  refine PCalls.of_r k_spec_FrameOk rfl ?_
  unfold F_spec_FrameOk at hF
  refine RW.sreg ?_
  refine rl.run 2 rfl ?_
  refine rl.done ?_
  refine RW.seq ?_
  obtain ⟨y1, ey1, h1⟩ := bindS hF
  refine RW.cutq (σ := Bool) (fun y1 => [(2, .bool y1)]) (fun y1 => []) (fun y => y1 = y) (fun _ _ _ _ g h => RW.gh g h) ?_ ?_
  · refine RW.reg ?_
    refine rl.run 2 rfl ?_
    obtain ⟨v2, e2, h2⟩ := bindS ey1
    refine rl.call rfl rfl rfl (CallW.val (r' := .bool v2) ok_spec_l01In (law_spec_l01In e2) (.cons .int (.cons .int (.cons .int .nil))) .refl ?_)
    cases hb : v2
    · have h3 := iteBF h2 hb
      refine rl.run 12 rfl ?_
      refine rl.done ?_
      cases h3
      exact ⟨_, rfl, (Gh.ren0 [] .nil rfl (.cons rfl (.dat .bool) .nil))⟩
    · have h4 := iteBT h2 hb
      refine rl.run 3 rfl ?_
      obtain ⟨v3, e3, h5⟩ := bindS h4
      refine rl.call rfl rfl rfl (CallW.val (r' := .bool v3) ok_spec_l01In (law_spec_l01In e3) (.cons .int (.cons .int (.cons .int .nil))) .refl ?_)
      cases hb : v3
      · have h6 := iteBF h5 hb
        refine rl.run 8 rfl ?_
        refine rl.done ?_
        cases h6
        exact ⟨_, rfl, (Gh.ren0 [] .nil rfl (.cons rfl (.dat .bool) .nil))⟩
      · have h7 := iteBT h5 hb
        refine rl.run 5 rfl ?_
        obtain ⟨v4, e4, h8⟩ := bindS h7
        refine rl.call rfl rfl rfl (CallW.val (r' := .bool v4) ok_spec_l01In (law_spec_l01In e4) (.cons .int (.cons .int (.cons .int .nil))) .refl ?_)
        refine rl.run 2 rfl ?_
        refine rl.done ?_
        cases h8
        exact ⟨_, rfl, (Gh.ren0 [] .nil rfl (.cons rfl (.dat .bool) .nil))⟩
  · intro y hC
    subst hC
    refine RW.ret ?_
    cases h1
    exact RRet.mk rfl .bool (by decide)
theorem law_spec_ItemFrame {x0 : TItem} {x1 : Int} {r : TFrame × Bool} (hF : F_spec_ItemFrame x0 x1 = some r) : PCalls Try.prog 53 [.agg (enc_TItem false x0), .int .i64 x1] (.tup [.agg (enc_TFrame true r.1), .bool r.2]) := by
  refine PCalls.of_r k_spec_ItemFrame rfl ?_
  unfold F_spec_ItemFrame at hF
  refine RW.sreg ?_
  refine rl.run 3 rfl ?_
  refine rl.done ?_
  refine RW.sreg ?_
  refine rl.run 2 rfl ?_
  obtain ⟨v1, e1, h1⟩ := bindS hF
  refine rl.call rfl rfl rfl (CallW.val (r' := .tup [.str v1.1, .bool v1.2]) ok_spec_RecText (law_spec_RecText e1) (.cons (DFL.agg (.cons .int (.cons .int (.cons .int (.cons .int (.cons .int (.cons .str (.cons .str (.cons .str .nil))))))))) .nil) (FlL.tup (.cons .refl (.cons .refl .nil))) ?_)
  refine rl.run 5 rfl ?_
  refine rl.done ?_
  refine RW.sreg ?_
  refine rl.run 7 rfl ?_
  refine rl.done ?_
  refine RW.keep [4, 7, 8] (a' := [(4, .ptr 1 0), (7, .bool v1.2), (8, .ptr 2 0)]) (H' := [some ⟨[.int .i64 x0.Seq, .int .i64 x0.Rec.Kind, .int .i64 x0.Rec.Valid, .int .i64 x0.Rec.Uid, .int .i64 x0.Rec.Next, .int .i64 x0.Rec.Flags, .str x0.Rec.User, .str x0.Rec.Name, .str x0.Rec.Text], 0⟩, some ⟨[.int .i64 0, .int .i64 0, .str []], 0⟩, some ⟨[.int .i64 x1, .int .i64 x0.Seq, .str v1.1], 0⟩]) rfl rfl ?_
  refine RW.seq ?_
  refine RW.seq ?_
  obtain ⟨y2, ey2, h2⟩ := bindS h1
  refine RW.cutq (σ := Bool) (fun y2 => [(4, .ptr 0 0), (8, .ptr 1 0), (26, .bool y2)]) (fun y2 => [some ⟨[.int .i64 0, .int .i64 0, .str []], 0⟩, some ⟨[.int .i64 x1, .int .i64 x0.Seq, .str v1.1], 0⟩]) (fun y => y2 = y) (fun _ _ _ _ g h => RW.gh g h) ?_ ?_
  · refine RW.reg ?_
    refine rl.run 3 rfl ?_
    cases hb : (!v1.2)
    · have h3 := iteBF ey2 hb
      refine rl.run 1 rfl ?_
      obtain ⟨v3, e3, h4⟩ := bindS h3
      refine rl.call rfl rfl rfl (CallW.val (r' := .bool v3) ok_spec_FrameOk (law_spec_FrameOk e3) (.cons (DFL.agg (.cons .int (.cons .int (.cons .str .nil)))) .nil) .refl ?_)
      cases hb : v3
      · have h5 := iteBF h4 hb
        refine rl.run 2 rfl ?_
        refine rl.done ?_
        cases h5
        exact ⟨_, rfl, (Gh.ren0 [1, 2] (.cells rfl rfl (.keep .int (.keep .int (.keep .str .nil))) (.cells rfl rfl (.keep .int (.keep .int (.keep .str .nil))) .nil)) rfl (.cons rfl (.ptr rfl) (.cons rfl (.ptr rfl) (.cons rfl (.dat .bool) .nil))))⟩
      · have h6 := iteBT h4 hb
        refine rl.run 2 rfl ?_
        refine rl.done ?_
        cases h6
        exact ⟨_, rfl, (Gh.ren0 [1, 2] (.cells rfl rfl (.keep .int (.keep .int (.keep .str .nil))) (.cells rfl rfl (.keep .int (.keep .int (.keep .str .nil))) .nil)) rfl (.cons rfl (.ptr rfl) (.cons rfl (.ptr rfl) (.cons rfl (.dat .bool) .nil))))⟩
    · have h7 := iteBT ey2 hb
      refine rl.run 4 rfl ?_
      refine rl.done ?_
      cases h7
      exact ⟨_, rfl, (Gh.ren0 [1, 2] (.cells rfl rfl (.keep .int (.keep .int (.keep .str .nil))) (.cells rfl rfl (.keep .int (.keep .int (.keep .str .nil))) .nil)) rfl (.cons rfl (.ptr rfl) (.cons rfl (.ptr rfl) (.cons rfl (.dat .bool) .nil))))⟩
  · intro y hC
    subst hC
    cases hb : y2
    · have h8 := iteBF h2 hb
      refine RW.cond_f rfl ?_
      refine RW.skip ?_
      refine RW.sreg ?_
      refine rl.run 3 rfl ?_
      refine rl.done ?_
      refine RW.ret ?_
      cases h8
      exact RRet.mk rfl (OutT.tup (.cons (OutL.agg (.cons .int rfl (.cons .int rfl (.cons .str rfl .nil)))) (.cons .bool .nil))) (by decide)
    · have h9 := iteBT h2 hb
      refine RW.cond_t rfl ?_
      refine RW.sreg ?_
      refine rl.run 3 rfl ?_
      refine rl.done ?_
      refine RW.ret ?_
      cases h9
      exact RRet.mk rfl (OutT.tup (.cons (OutL.agg (.cons .int rfl (.cons .int rfl (.cons .str rfl .nil)))) (.cons .bool .nil))) (by decide)
theorem law_spec_l02Four {x0 : Int} {r : List UInt8} (hF : F_spec_l02Four x0 = some r) : PCalls Try.prog 72 [.int .u32 x0] (.str r) := by
  refine PCalls.of_r k_spec_l02Four rfl ?_
  unfold F_spec_l02Four at hF
  refine RW.sreg ?_
  refine rl.run 1 rfl ?_
  refine rl.done ?_
  refine RW.sreg ?_
  refine rl.run 12 rfl ?_
  refine rl.op (x_cvb_sl (o := true) (l := [IntKind.u8.wrap (shrv .u32 x0 24), IntKind.u8.wrap (shrv .u32 x0 16), IntKind.u8.wrap (shrv .u32 x0 8), IntKind.u8.wrap x0]) rfl rfl) ?_
  refine rl.run 1 rfl ?_
  refine rl.done ?_
  refine RW.keep [2] (a' := [(2, .str ([IntKind.u8.wrap (shrv .u32 x0 24), IntKind.u8.wrap (shrv .u32 x0 16), IntKind.u8.wrap (shrv .u32 x0 8), IntKind.u8.wrap x0].map ofI))]) (H' := [some ⟨fl (encB true) [IntKind.u8.wrap (shrv .u32 x0 24), IntKind.u8.wrap (shrv .u32 x0 16), IntKind.u8.wrap (shrv .u32 x0 8), IntKind.u8.wrap x0], 1⟩]) rfl rfl ?_
  refine RW.ret ?_
  cases hF
  exact RRet.mk rfl .str (by decide)
theorem law_spec_SumMore {x0 : Int} {x1 : List UInt8} {r : Int} (hF : F_spec_SumMore x0 x1 = some r) : PCalls Try.prog 100 [.int .u32 x0, .str x1] (.int .u32 r) := by
  refine PCalls.of_r k_spec_SumMore rfl ?_
  unfold F_spec_SumMore at hF
  refine RW.sreg ?_
  refine rl.run 1 rfl ?_
  refine rl.done ?_
  refine RW.seq ?_
  refine RW.sreg ?_
  refine rl.run 1 rfl ?_
  refine rl.done ?_
  obtain ⟨y7, ey7, h2⟩ := bindS hF
  refine RW.cutq (σ := Int) (fun y2 => [(0, .int .u32 y2)]) (fun y2 => []) (fun y => y7 = y) (fun _ _ _ _ g h => RW.gh g h) ?_ ?_
  · refine RW.blk ?_
    refine RW.iter (σ := Int × Int) ey7 (fun s1 => [(0, .int .u32 s1.1), (1, .str x1), (5, .int .i64 s1.2)]) (fun s1 => []) (Gh.ren0 [] .nil rfl (.cons rfl (.dat .int) (.cons rfl (.dat .str) (.cons rfl (.dat .int) .nil)))) (fun s1 B o hS1 hB1 hE1 => ?_)
    unfold S_spec_SumMore_1 at hS1
    refine RW.seq ?_
    refine RW.sreg ?_
    refine rl.run 3 rfl ?_
    refine rl.gen rfl rfl fun b hb => ?_
    cases b
    · have h3 := iteBF hS1 hb
      refine rl.done ?_
      refine RW.cond_f rfl ?_
      refine RW.exit ?_
      refine blkA_eq ?_
      cases h3
      exact ⟨_, (hE1 _ rfl).symm, (Gh.ren0 [] .nil rfl (.cons rfl (.dat .int) .nil))⟩
    · have h4 := iteBT hS1 hb
      refine rl.done ?_
      refine RW.cond_t rfl ?_
      refine RW.skip ?_
      refine RW.seq ?_
      refine RW.blk ?_
      refine RW.sreg ?_
      refine rl.run 3 rfl ?_
      obtain ⟨v3, e3, h5⟩ := bindS h4
      refine rl.op (x_idx rfl rfl e3) ?_
      refine rl.run 3 rfl ?_
      refine rl.done ?_
      refine RW.sreg ?_
      refine rl.run 1 rfl ?_
      refine rl.done ?_
      obtain ⟨y6, ey6, h7⟩ := bindS h5
      refine RW.cutq (σ := Int) (fun y5 => [(0, .int .u32 y5), (1, .str x1), (5, .int .i64 s1.2)]) (fun y5 => []) (fun y => y6 = y) (fun _ _ _ _ g h => RW.gh g h) ?_ ?_
      · refine RW.blk ?_
        refine RW.iter (σ := Int × Int) ey6 (fun s4 => [(0, .int .u32 s4.1), (1, .str x1), (5, .int .i64 s1.2), (6, .int .i64 s4.2)]) (fun s4 => []) (Gh.ren0 [] .nil rfl (.cons rfl (.dat .int) (.cons rfl (.dat .str) (.cons rfl (.dat .int) (.cons rfl (.dat .int) .nil))))) (fun s4 B o hS6 hB6 hE6 => ?_)
        unfold S_spec_SumMore_2 at hS6
        refine RW.seq ?_
        refine RW.sreg ?_
        refine rl.run 1 rfl ?_
        refine rl.gen rfl rfl fun b hb => ?_
        cases b
        · have h8 := iteBF hS6 hb
          refine rl.done ?_
          refine RW.cond_f rfl ?_
          refine RW.exit ?_
          refine blkA_eq ?_
          cases h8
          exact ⟨_, (hE6 _ rfl).symm, (Gh.ren0 [] .nil rfl (.cons rfl (.dat .int) (.cons rfl (.dat .str) (.cons rfl (.dat .int) .nil))))⟩
        · have h9 := iteBT hS6 hb
          refine rl.done ?_
          refine RW.cond_t rfl ?_
          refine RW.skip ?_
          refine RW.seq ?_
          refine RW.blk ?_
          refine RW.sreg ?_
          refine rl.run 2 rfl ?_
          refine rl.gen rfl rfl fun b hb => ?_
          cases b
          · have h10 := iteBF h9 hb
            refine rl.run 1 rfl ?_
            refine rl.done ?_
            refine RW.sreg ?_
            refine rl.run 3 rfl ?_
            refine rl.done ?_
            refine RW.sreg ?_
            refine rl.run 1 rfl ?_
            refine rl.done ?_
            refine RW.cond_f rfl ?_
            refine RW.skip ?_
            refine RW.reg ?_
            refine rl.run 3 rfl ?_
            refine rl.done ?_
            cases h10
            exact hB6 _ rfl _ _ (Gh.ren0 [] .nil rfl (.cons rfl (.dat .int) (.cons rfl (.dat .str) (.cons rfl (.dat .int) (.cons rfl (.dat .int) .nil)))))
          · have h11 := iteBT h9 hb
            refine rl.run 1 rfl ?_
            refine rl.done ?_
            refine RW.sreg ?_
            refine rl.run 3 rfl ?_
            refine rl.done ?_
            refine RW.sreg ?_
            refine rl.run 1 rfl ?_
            refine rl.done ?_
            refine RW.cond_t rfl ?_
            refine RW.reg ?_
            refine rl.run 3 rfl ?_
            refine rl.done ?_
            refine RW.reg ?_
            refine rl.run 3 rfl ?_
            refine rl.done ?_
            cases h11
            exact hB6 _ rfl _ _ (Gh.ren0 [] .nil rfl (.cons rfl (.dat .int) (.cons rfl (.dat .str) (.cons rfl (.dat .int) (.cons rfl (.dat .int) .nil)))))
      · intro y5 hC
        subst hC
        refine RW.reg ?_
        refine rl.run 3 rfl ?_
        refine rl.done ?_
        cases h7
        exact hB1 _ rfl _ _ (Gh.ren0 [] .nil rfl (.cons rfl (.dat .int) (.cons rfl (.dat .str) (.cons rfl (.dat .int) .nil))))
  · intro y2 hC
    subst hC
    refine RW.sreg ?_
    refine rl.run 2 rfl ?_
    refine rl.done ?_
    refine RW.ret ?_
    cases h2
    exact RRet.mk rfl .int (by decide)
theorem law_spec_SumOf {x0 : List UInt8} {r : Int} (hF : F_spec_SumOf x0 = some r) : PCalls Try.prog 73 [.str x0] (.int .u32 r) := by
  refine PCalls.of_r k_spec_SumOf rfl ?_
  unfold F_spec_SumOf at hF
  refine RW.sreg ?_
  refine rl.run 1 rfl ?_
  refine rl.done ?_
  refine RW.sreg ?_
  refine rl.run 1 rfl ?_
  obtain ⟨v1, e1, h1⟩ := bindS hF
  refine rl.call rfl rfl rfl (CallW.val (r' := .int .u32 v1) ok_spec_SumMore (law_spec_SumMore e1) (.cons .int (.cons .str .nil)) .refl ?_)
  refine rl.run 1 rfl ?_
  refine rl.done ?_
  refine RW.ret ?_
  cases h1
  exact RRet.mk rfl .int (by decide)
theorem law_spec_Sealed {x0 : List UInt8} {r : (List UInt8) × Bool} (hF : F_spec_Sealed x0 = some r) : PCalls Try.prog 44 [.str x0] (.tup [.str r.1, .bool r.2]) := by
  refine PCalls.of_r k_spec_Sealed rfl ?_
  unfold F_spec_Sealed at hF
  refine RW.sreg ?_
  refine rl.run 2 rfl ?_
  refine rl.done ?_
  refine RW.seq ?_
  refine RW.sreg ?_
  refine rl.run 2 rfl ?_
  refine rl.gen rfl rfl fun b hb => ?_
  cases b
  · have h1 := iteBF hF hb
    refine rl.done ?_
    refine RW.cond_f rfl ?_
    refine RW.skip ?_
    refine RW.sreg ?_
    refine rl.run 2 rfl ?_
    obtain ⟨v1, e1, h2⟩ := bindS h1
    refine rl.call rfl rfl rfl (CallW.val (r' := .int .u32 v1) ok_spec_SumOf (law_spec_SumOf e1) (.cons .str .nil) .refl ?_)
    obtain ⟨v2, e2, h3⟩ := bindS h2
    refine rl.call rfl rfl rfl (CallW.val (r' := .str v2) ok_spec_l02Four (law_spec_l02Four e2) (.cons .int .nil) .refl ?_)
    obtain ⟨v3, e3, h4⟩ := bindS h3
    refine rl.op (x_cat rfl rfl e3) ?_
    refine rl.run 2 rfl ?_
    refine rl.done ?_
    refine RW.ret ?_
    cases h4
    exact RRet.mk rfl (OutT.tup (.cons .str (.cons .bool .nil))) (by decide)
  · have h5 := iteBT hF hb
    refine rl.done ?_
    refine RW.cond_t rfl ?_
    refine RW.sreg ?_
    refine rl.run 2 rfl ?_
    refine rl.done ?_
    refine RW.ret ?_
    cases h5
    exact RRet.mk rfl (OutT.tup (.cons .str (.cons .bool .nil))) (by decide)
theorem law_spec_FrameText {x0 : TFrame} {r : (List UInt8) × Bool} (hF : F_spec_FrameText x0 = some r) : PCalls Try.prog 78 [.agg (enc_TFrame false x0)] (.tup [.str r.1, .bool r.2]) := by
  refine PCalls.of_r k_spec_FrameText rfl ?_
  unfold F_spec_FrameText at hF
  refine RW.sreg ?_
  refine rl.run 3 rfl ?_
  refine rl.done ?_
  refine RW.seq ?_
  refine RW.sreg ?_
  refine rl.run 1 rfl ?_
  obtain ⟨v1, e1, h1⟩ := bindS hF
  refine rl.call rfl rfl rfl (CallW.val (r' := .bool v1) ok_spec_FrameOk (law_spec_FrameOk e1) (.cons (DFL.agg (.cons .int (.cons .int (.cons .str .nil)))) .nil) .refl ?_)
  cases hb : v1
  · have h2 := iteBF h1 hb
    refine rl.run 1 rfl ?_
    refine rl.done ?_
    refine RW.cond_t rfl ?_
    refine RW.sreg ?_
    refine rl.run 2 rfl ?_
    refine rl.done ?_
    refine RW.ret ?_
    cases h2
    exact RRet.mk rfl (OutT.tup (.cons .str (.cons .bool .nil))) (by decide)
  · have h3 := iteBT h1 hb
    refine rl.run 1 rfl ?_
    refine rl.done ?_
    refine RW.cond_f rfl ?_
    refine RW.skip ?_
    refine RW.sdrw ?_
    refine rdraw.op rfl rfl ?_
    refine rdraw.op rfl rfl ?_
    obtain ⟨v2, e2, h4⟩ := bindS h3
    refine rdraw.call rfl rfl rfl (CallW.val (r' := .str v2) ok_spec_l01Var (law_spec_l01Var e2) (.cons .int .nil) .refl ⟨rfl, ?_⟩)
    refine rdraw.op rfl rfl ?_
    refine rdraw.op rfl rfl ?_
    obtain ⟨v3, e3, h5⟩ := bindS h4
    refine rdraw.call rfl rfl rfl (CallW.val (r' := .str v3) ok_spec_l01Var (law_spec_l01Var e3) (.cons .int .nil) .refl ⟨rfl, ?_⟩)
    obtain ⟨v4, e4, h6⟩ := bindS h5
    refine rdraw.op rfl (x_cat rfl rfl e4) ?_
    refine rdraw.op rfl rfl ?_
    refine rdraw.op rfl rfl ?_
    refine rdraw.op rfl rfl ?_
    obtain ⟨v5, e5, h7⟩ := bindS h6
    refine rdraw.call rfl rfl rfl (CallW.val (r' := .str v5) ok_spec_l01Var (law_spec_l01Var e5) (.cons .int .nil) .refl ⟨rfl, ?_⟩)
    obtain ⟨v6, e6, h8⟩ := bindS h7
    refine rdraw.op rfl (x_cat rfl rfl e6) ?_
    refine rdraw.op rfl rfl ?_
    refine rdraw.op rfl rfl ?_
    obtain ⟨v7, e7, h9⟩ := bindS h8
    refine rdraw.op rfl (x_cat rfl rfl e7) ?_
    obtain ⟨v8, e8, h10⟩ := bindS h9
    refine rdraw.call rfl rfl rfl (CallW.val (r' := .tup [.str v8.1, .bool v8.2]) ok_spec_Sealed (law_spec_Sealed e8) (.cons .str .nil) (FlL.tup (.cons .refl (.cons .refl .nil))) ⟨rfl, ?_⟩)
    refine rdraw.op rfl rfl ?_
    refine rdraw.op rfl rfl ?_
    refine rdraw.op rfl rfl ?_
    refine rdraw.op rfl rfl ?_
    refine rdraw.done ?_
    refine RW.keep [2, 3] (a' := [(2, .str v8.1), (3, .bool v8.2)]) (H' := [some ⟨[.int .i64 x0.Gen, .int .i64 x0.Seq, .str x0.Body], 0⟩]) rfl rfl ?_
    refine RW.ret ?_
    cases h10
    exact RRet.mk rfl (OutT.tup (.cons .str (.cons .bool .nil))) (by decide)
theorem law_spec_FrameSize {x0 : TFrame} {r : Int} (hF : F_spec_FrameSize x0 = some r) : PCalls Try.prog 54 [.agg (enc_TFrame false x0)] (.int .i64 r) := by
  refine PCalls.of_r k_spec_FrameSize rfl ?_
  unfold F_spec_FrameSize at hF
  refine RW.sreg ?_
  refine rl.run 2 rfl ?_
  refine rl.done ?_
  refine RW.sreg ?_
  refine rl.run 1 rfl ?_
  obtain ⟨v1, e1, h1⟩ := bindS hF
  refine rl.call rfl rfl rfl (CallW.val (r' := .tup [.str v1.1, .bool v1.2]) ok_spec_FrameText (law_spec_FrameText e1) (.cons (DFL.agg (.cons .int (.cons .int (.cons .str .nil)))) .nil) (FlL.tup (.cons .refl (.cons .refl .nil))) ?_)
  refine rl.run 5 rfl ?_
  refine rl.done ?_
  refine RW.sreg ?_
  refine rl.run 3 rfl ?_
  refine rl.done ?_
  refine RW.keep [2] (a' := [(2, .int .i64 (v1.1.length : Int))]) (H' := [some ⟨[.int .i64 x0.Gen, .int .i64 x0.Seq, .str x0.Body], 0⟩]) rfl rfl ?_
  refine RW.ret ?_
  cases h1
  exact RRet.mk rfl .int (by decide)
theorem law_spec_RecSize {x0 : TRec} {r : Int} (hF : F_spec_RecSize x0 = some r) : PCalls Try.prog 27 [.agg (enc_TRec false x0)] (.int .i64 r) := by
  refine PCalls.of_r k_spec_RecSize rfl ?_
  unfold F_spec_RecSize at hF
  refine RW.sreg ?_
  refine rl.run 2 rfl ?_
  refine rl.done ?_
  refine RW.sreg ?_
  refine rl.run 2 rfl ?_
  obtain ⟨v1, e1, h1⟩ := bindS hF
  refine rl.call rfl rfl rfl (CallW.val (r' := .tup [.agg (enc_TFrame false v1.1), .bool v1.2]) ok_spec_ItemFrame (law_spec_ItemFrame e1) (.cons (DFL.agg (.cons .int (.cons .int (.cons .int (.cons .int (.cons .int (.cons .int (.cons .str (.cons .str (.cons .str .nil)))))))))) (.cons .int .nil)) (FlL.tup (.cons .refl (.cons .refl .nil))) ?_)
  refine rl.run 6 rfl ?_
  refine rl.done ?_
  refine RW.seq ?_
  refine RW.sreg ?_
  refine rl.run 2 rfl ?_
  refine rl.done ?_
  refine RW.keep [3, 12] (a' := [(3, .ptr 1 0), (12, .bool (!v1.2))]) (H' := [some ⟨[.int .i64 x0.Kind, .int .i64 x0.Valid, .int .i64 x0.Uid, .int .i64 x0.Next, .int .i64 x0.Flags, .str x0.User, .str x0.Name, .str x0.Text], 0⟩, some ⟨[.int .i64 v1.1.Gen, .int .i64 v1.1.Seq, .str v1.1.Body], 0⟩]) rfl rfl ?_
  cases hb : (!v1.2)
  · have h2 := iteBF h1 hb
    refine RW.cond_f rfl ?_
    refine RW.skip ?_
    refine RW.sreg ?_
    refine rl.run 1 rfl ?_
    obtain ⟨v2, e2, h3⟩ := bindS h2
    refine rl.call rfl rfl rfl (CallW.val (r' := .int .i64 v2) ok_spec_FrameSize (law_spec_FrameSize e2) (.cons (DFL.agg (.cons .int (.cons .int (.cons .str .nil)))) .nil) .refl ?_)
    refine rl.run 1 rfl ?_
    refine rl.done ?_
    refine RW.ret ?_
    cases h3
    exact RRet.mk rfl .int (by decide)
  · have h4 := iteBT h1 hb
    refine RW.cond_t rfl ?_
    refine RW.sreg ?_
    refine rl.run 1 rfl ?_
    refine rl.done ?_
    refine RW.ret ?_
    cases h4
    exact RRet.mk rfl .int (by decide)
theorem law_laws_toRec {x0 : TRec} {r : TRec} (hF : F_laws_toRec x0 = some r) : PCalls Try.prog 28 [.agg (enc_TRec false x0)] (.agg (enc_TRec true r)) := by
  refine PCalls.of_r k_laws_toRec rfl ?_
  unfold F_laws_toRec at hF
  refine RW.sreg ?_
  refine rl.run 2 rfl ?_
  refine rl.done ?_
  refine RW.sreg ?_
  refine rl.run 1 rfl ?_
  refine rl.done ?_
  refine RW.sreg ?_
  refine rl.run 4 rfl ?_
  refine rl.done ?_
  refine RW.sreg ?_
  refine rl.run 4 rfl ?_
  refine rl.done ?_
  refine RW.sreg ?_
  refine rl.run 4 rfl ?_
  refine rl.done ?_
  refine RW.sreg ?_
  refine rl.run 4 rfl ?_
  refine rl.done ?_
  refine RW.keep [1, 2, 3] (a' := [(1, .ptr 0 0), (2, .ptr 1 0), (3, .ptr 2 0)]) (H' := [some ⟨[.int .i64 x0.Kind, .int .i64 x0.Valid, .int .i64 x0.Uid, .int .i64 x0.Next, .int .i64 x0.Flags, .str x0.User, .str x0.Name, .str x0.Text], 0⟩, some ⟨[.int .i64 0, .int .i64 0, .int .i64 0, .int .i64 0, .int .i64 0, .str [], .str [], .str []], 0⟩, some ⟨[.int .i64 x0.Kind, .int .i64 x0.Valid, .int .i64 x0.Uid, .int .i64 x0.Next, .int .i64 0, .str [], .str [], .str []], 0⟩]) rfl rfl ?_
  refine RW.sreg ?_
  refine rl.run 4 rfl ?_
  refine rl.done ?_
  refine RW.sreg ?_
  refine rl.run 4 rfl ?_
  refine rl.done ?_
  refine RW.sreg ?_
  refine rl.run 4 rfl ?_
  refine rl.done ?_
  refine RW.sreg ?_
  refine rl.run 4 rfl ?_
  refine rl.done ?_
  refine RW.keep [2, 3] (a' := [(2, .ptr 1 0), (3, .ptr 2 0)]) (H' := [some ⟨[.int .i64 x0.Kind, .int .i64 x0.Valid, .int .i64 x0.Uid, .int .i64 x0.Next, .int .i64 x0.Flags, .str x0.User, .str x0.Name, .str x0.Text], 0⟩, some ⟨[.int .i64 0, .int .i64 0, .int .i64 0, .int .i64 0, .int .i64 0, .str [], .str [], .str []], 0⟩, some ⟨[.int .i64 x0.Kind, .int .i64 x0.Valid, .int .i64 x0.Uid, .int .i64 x0.Next, .int .i64 x0.Flags, .str x0.User, .str x0.Name, .str x0.Text], 0⟩]) rfl rfl ?_
  refine RW.sreg ?_
  refine rl.run 2 rfl ?_
  refine rl.done ?_
  refine RW.ret ?_
  cases hF
  exact RRet.mk rfl (OutL.agg (.cons .int rfl (.cons .int rfl (.cons .int rfl (.cons .int rfl (.cons .int rfl (.cons .str rfl (.cons .str rfl (.cons .str rfl .nil))))))))) (by decide)
theorem law_impl_varText {x0 : Int} {r : List UInt8} (hF : F_impl_varText x0 = some r) : PCalls Try.prog 46 [.int .i64 x0] (.str r) := by
  refine PCalls.of_r k_impl_varText rfl ?_
  unfold F_impl_varText at hF
  refine RW.sreg ?_
  refine rl.run 1 rfl ?_
  refine rl.done ?_
  refine RW.sreg ?_
  refine rl.run 2 rfl ?_
  refine rl.done ?_
  refine RW.seq ?_
  obtain ⟨y4, ey4, h2⟩ := bindS hF
  refine RW.cutq (σ := Int × (List Int)) (fun y2 => [(0, .int .i64 y2.1), (3, .sl 0 0 y2.2.length)]) (fun y2 => [some ⟨fl (encB true) y2.2, 1⟩]) (fun y => y4 = y) (fun _ _ _ _ g h => RW.gh g h) ?_ ?_
  · refine RW.blk ?_
    refine RW.iter (σ := Int × (List Int)) ey4 (fun s1 => [(0, .int .i64 s1.1), (3, .sl 0 0 s1.2.length)]) (fun s1 => [some ⟨fl (encB true) s1.2, 1⟩]) (Gh.ren0 [0] (.same rfl (ekB.fref _ _) .nil) rfl (.cons rfl (.dat .int) (.cons rfl (.slq rfl rfl) .nil))) (fun s1 B o hS1 hB1 hE1 => ?_)
    unfold S_impl_varText_1 at hS1
    refine RW.seq ?_
    refine RW.sreg ?_
    refine rl.run 1 rfl ?_
    refine rl.gen rfl rfl fun b hb => ?_
    cases b
    · have h3 := iteBF hS1 hb
      refine rl.done ?_
      refine RW.cond_f rfl ?_
      refine RW.exit ?_
      refine blkA_eq ?_
      cases h3
      exact ⟨_, (hE1 _ rfl).symm, (Gh.ren0 [0] (.same rfl (ekB.fref _ _) .nil) rfl (.cons rfl (.dat .int) (.cons rfl (.slq rfl rfl) .nil)))⟩
    · have h4 := iteBT hS1 hb
      refine rl.done ?_
      refine RW.cond_t rfl ?_
      refine RW.skip ?_
      refine RW.blk ?_
      refine RW.sreg ?_
      refine rl.run 6 rfl ?_
      obtain ⟨v3, e3, h5⟩ := bindS h4
      refine rl.op (x_app rfl rfl (rapp_sl (l := s1.2) (m := [IntKind.u8.wrap (orv .i64 (andv .i64 s1.1 127) 128)]) (o := true) ekB rfl rfl (acont_slq (m := [IntKind.u8.wrap (orv .i64 (andv .i64 s1.1 127) 128)]) (o := true) fkB rfl rfl) rfl (fkB.fst _ _) e3)) ?_
      refine rl.run 1 rfl ?_
      refine rl.done ?_
      refine RW.reg ?_
      refine rl.run 3 rfl ?_
      refine rl.done ?_
      cases h5
      exact hB1 _ rfl _ _ (Gh.ren0 [2] (.same rfl (ekB.fref _ _) .nil) rfl (.cons rfl (.dat .int) (.cons rfl (.slq rfl rfl) .nil)))
  · intro y2 hC
    subst hC
    refine RW.sreg ?_
    refine rl.run 4 rfl ?_
    obtain ⟨v5, e5, h6⟩ := bindS h2
    refine rl.op (x_app rfl rfl (rapp_sl (l := y4.2) (m := [IntKind.u8.wrap y4.1]) (o := true) ekB rfl rfl (acont_slq (m := [IntKind.u8.wrap y4.1]) (o := true) fkB rfl rfl) rfl (fkB.fst _ _) e5)) ?_
    refine rl.op (x_cvb_sl (o := true) (l := v5) rfl rfl) ?_
    refine rl.run 1 rfl ?_
    refine rl.done ?_
    refine RW.ret ?_
    cases h6
    exact RRet.mk rfl .str (by decide)
theorem law_impl_in {x0 : Int} {x1 : Int} {x2 : Int} {r : Bool} (hF : F_impl_in x0 x1 x2 = some r) : PCalls Try.prog 39 [.int .i64 x0, .int .i64 x1, .int .i64 x2] (.bool r) := by
  refine PCalls.of_r k_impl_in rfl ?_
  unfold F_impl_in at hF
  refine RW.sreg ?_
  refine rl.run 1 rfl ?_
  refine rl.done ?_
  refine RW.sreg ?_
  refine rl.run 2 rfl ?_
  refine rl.gen rfl rfl fun b hb => ?_
  cases b
  · have h1 := iteBF hF hb
    refine rl.run 6 rfl ?_
    refine rl.done ?_
    refine RW.keep [6] (a' := [(6, .bool false)]) (H' := []) rfl rfl ?_
    refine RW.ret ?_
    cases h1
    exact RRet.mk rfl .bool (by decide)
  · have h2 := iteBT hF hb
    refine rl.run 6 rfl ?_
    refine rl.done ?_
    refine RW.keep [6] (a' := [(6, .bool (decide (x0 ≤ x2)))]) (H' := []) rfl rfl ?_
    refine RW.ret ?_
    cases h2
    exact RRet.mk rfl .bool (by decide)
theorem law_impl_WordOk {x0 : List UInt8} {r : Bool} (hF : F_impl_WordOk x0 = some r) : PCalls Try.prog 104 [.str x0] (.bool r) := by
  refine PCalls.of_r k_impl_WordOk rfl ?_
  unfold F_impl_WordOk at hF
  refine RW.sreg ?_
  refine rl.run 1 rfl ?_
  refine rl.done ?_
  refine RW.seq ?_
  refine RW.sreg ?_
  refine rl.run 2 rfl ?_
  obtain ⟨v1, e1, h1⟩ := bindS hF
  refine rl.call rfl rfl rfl (CallW.val (r' := .bool v1) ok_impl_in (law_impl_in e1) (.cons .int (.cons .int (.cons .int .nil))) .refl ?_)
  cases hb : v1
  · have h2 := iteBF h1 hb
    refine rl.run 1 rfl ?_
    refine rl.done ?_
    refine RW.cond_t rfl ?_
    refine RW.sreg ?_
    refine rl.run 1 rfl ?_
    refine rl.done ?_
    refine RW.ret ?_
    cases h2
    exact RRet.mk rfl .bool (by decide)
  · have h3 := iteBT h1 hb
    refine rl.run 1 rfl ?_
    refine rl.done ?_
    refine RW.cond_f rfl ?_
    refine RW.skip ?_
    refine RW.seq ?_
    refine RW.sreg ?_
    refine rl.run 3 rfl ?_
    refine rl.done ?_
    obtain ⟨y7, ey7, h5⟩ := bindS h3
    refine RW.cutq (σ := Unit) (fun y3 => []) (fun y3 => []) (fun y => y7 = .inr y) (fun _ _ _ _ g h => RW.gh g h) ?_ ?_
    · refine RW.blk ?_
      refine RW.iter (σ := Int) ey7 (fun s2 => [(0, .str x0), (9, .int .i64 (x0.length : Int)), (10, .int .i64 s2)]) (fun s2 => []) (Gh.ren0 [] .nil rfl (.cons rfl (.dat .str) (.cons rfl (.dat .int) (.cons rfl (.dat .int) .nil)))) (fun s2 B o hS4 hB4 hE4 => ?_)
      unfold S_impl_WordOk_1 at hS4
      refine RW.sreg ?_
      refine rl.gen rfl rfl fun b hb => ?_
      cases b
      · have h6 := iteBF hS4 hb
        refine rl.done ?_
        refine RW.seq ?_
        refine RW.cond_f rfl ?_
        refine RW.exit ?_
        refine blkA_eq ?_
        cases h6
        exact ⟨_, (hE4 _ rfl).symm, (Gh.ren0 [] .nil rfl .nil)⟩
      · have h7 := iteBT hS4 hb
        refine rl.done ?_
        refine RW.seq ?_
        refine RW.cond_t rfl ?_
        refine RW.skip ?_
        refine RW.seq ?_
        refine RW.blk ?_
        refine RW.sreg ?_
        refine rl.run 2 rfl ?_
        refine rl.done ?_
        refine RW.seq ?_
        obtain ⟨y4, ey4, h8⟩ := bindS h7
        refine RW.cutq (σ := Bool) (fun y4 => [(0, .str x0), (9, .int .i64 (x0.length : Int)), (10, .int .i64 s2), (22, .bool y4)]) (fun y4 => []) (fun y => y4 = y) (fun _ _ _ _ g h => RW.gh g h) ?_ ?_
        · refine RW.reg ?_
          refine rl.run 2 rfl ?_
          obtain ⟨v5, e5, h9⟩ := bindS ey4
          refine rl.op (x_idx rfl rfl e5) ?_
          refine rl.gen rfl rfl fun b hb => ?_
          cases b
          · have h10 := iteBF h9 hb
            refine rl.run 3 rfl ?_
            obtain ⟨v6, e6, h11⟩ := bindS h10
            refine rl.gop rfl (x_idx rfl rfl e6) ?_
            refine rl.gen rfl rfl fun b hb => ?_
            cases b
            · have h12 := iteBF h11 hb
              refine rl.run 1 rfl ?_
              refine rl.done ?_
              cases h12
              exact ⟨_, rfl, (Gh.ren0 [] .nil rfl (.cons rfl (.dat .str) (.cons rfl (.dat .int) (.cons rfl (.dat .int) (.cons rfl (.dat .bool) .nil)))))⟩
            · have h13 := iteBT h11 hb
              refine rl.run 1 rfl ?_
              refine rl.done ?_
              cases h13
              exact ⟨_, rfl, (Gh.ren0 [] .nil rfl (.cons rfl (.dat .str) (.cons rfl (.dat .int) (.cons rfl (.dat .int) (.cons rfl (.dat .bool) .nil)))))⟩
          · have h14 := iteBT h9 hb
            refine rl.run 6 rfl ?_
            refine rl.done ?_
            cases h14
            exact ⟨_, rfl, (Gh.ren0 [] .nil rfl (.cons rfl (.dat .str) (.cons rfl (.dat .int) (.cons rfl (.dat .int) (.cons rfl (.dat .bool) .nil)))))⟩
        · intro y hC
          subst hC
          cases hb : y4
          · have h15 := iteBF h8 hb
            refine RW.cond_f rfl ?_
            refine RW.skip ?_
            refine RW.reg ?_
            refine rl.run 2 rfl ?_
            refine rl.done ?_
            cases h15
            exact hB4 _ rfl _ _ (Gh.ren0 [] .nil rfl (.cons rfl (.dat .str) (.cons rfl (.dat .int) (.cons rfl (.dat .int) .nil))))
          · have h16 := iteBT h8 hb
            refine RW.cond_t rfl ?_
            refine RW.sreg ?_
            refine rl.run 1 rfl ?_
            refine rl.done ?_
            refine RW.ret ?_
            cases h16
            have h17 := elimL h5 (hE4 _ rfl)
            cases h17
            exact RRet.mk rfl .bool (by decide)
    · intro y3 hC
      have h5 := elimR h5 hC
      refine RW.sreg ?_
      refine rl.run 1 rfl ?_
      refine rl.done ?_
      refine RW.ret ?_
      cases h5
      exact RRet.mk rfl .bool (by decide)
theorem law_impl_RecOk {x0 : TRec} {r : Bool} (hF : F_impl_RecOk x0 = some r) : PCalls Try.prog 88 [.agg (enc_TRec false x0)] (.bool r) := by
  refine PCalls.of_r k_impl_RecOk rfl ?_
  unfold F_impl_RecOk at hF
  refine RW.sreg ?_
  refine rl.run 2 rfl ?_
  refine rl.done ?_
  refine RW.seq ?_
  refine RW.sreg ?_
  refine rl.run 2 rfl ?_
  obtain ⟨v1, e1, h1⟩ := bindS hF
  refine rl.call rfl rfl rfl (CallW.val (r' := .bool v1) ok_impl_in (law_impl_in e1) (.cons .int (.cons .int (.cons .int .nil))) .refl ?_)
  cases hb : v1
  · have h2 := iteBF h1 hb
    refine rl.run 1 rfl ?_
    refine rl.done ?_
    refine RW.cond_t rfl ?_
    refine RW.sreg ?_
    refine rl.run 1 rfl ?_
    refine rl.done ?_
    refine RW.ret ?_
    cases h2
    exact RRet.mk rfl .bool (by decide)
  · have h3 := iteBT h1 hb
    refine rl.run 1 rfl ?_
    refine rl.done ?_
    refine RW.cond_f rfl ?_
    refine RW.skip ?_
    refine RW.sreg ?_
    refine rl.run 3 rfl ?_
    refine rl.done ?_
    refine RW.sreg ?_
    refine rl.run 4 rfl ?_
    refine rl.done ?_
    refine RW.sreg ?_
    refine rl.run 1 rfl ?_
    refine rl.done ?_
    refine RW.seq ?_
    refine RW.seq ?_
    obtain ⟨y2, ey2, h4⟩ := bindS h3
    refine RW.cutq (σ := Bool) (fun y2 => [(1, .ptr 0 0), (3, .ptr 1 0), (4, .bool true), (24, .bool y2)]) (fun y2 => [some ⟨[.int .i64 x0.Kind, .int .i64 x0.Valid, .int .i64 x0.Uid, .int .i64 x0.Next, .int .i64 x0.Flags, .str x0.User, .str x0.Name, .str x0.Text], 0⟩, some ⟨[.int .i64 0, .int .i64 0, .int .i64 x0.Uid, .int .i64 x0.Next, .int .i64 x0.Flags, .str x0.User, .str x0.Name, .str x0.Text], 0⟩]) (fun y => y2 = y) (fun _ _ _ _ g h => RW.gh g h) ?_ ?_
    · refine RW.reg ?_
      refine rl.run 2 rfl ?_
      refine rl.gen rfl rfl fun b hb => ?_
      cases b
      · have h5 := iteBF ey2 hb
        refine rl.run 3 rfl ?_
        refine rl.gen rfl rfl fun b hb => ?_
        cases b
        · have h6 := iteBF h5 hb
          refine rl.run 4 rfl ?_
          refine rl.gen rfl rfl fun b hb => ?_
          cases b
          · have h7 := iteBF h6 hb
            refine rl.run 1 rfl ?_
            refine rl.done ?_
            cases h7
            exact ⟨_, rfl, (Gh.ren0 [0, 1] (.cells rfl rfl (.keep .int (.keep .int (.keep .int (.keep .int (.keep .int (.keep .str (.keep .str (.keep .str .nil)))))))) (.cells rfl rfl (.keep .int (.keep .int (.keep .int (.keep .int (.keep .int (.keep .str (.keep .str (.keep .str .nil)))))))) .nil)) rfl (.cons rfl (.ptr rfl) (.cons rfl (.ptr rfl) (.cons rfl (.dat .bool) (.cons rfl (.dat .bool) .nil)))))⟩
          · have h8 := iteBT h6 hb
            refine rl.run 1 rfl ?_
            refine rl.done ?_
            cases h8
            exact ⟨_, rfl, (Gh.ren0 [0, 1] (.cells rfl rfl (.keep .int (.keep .int (.keep .int (.keep .int (.keep .int (.keep .str (.keep .str (.keep .str .nil)))))))) (.cells rfl rfl (.keep .int (.keep .int (.keep .int (.keep .int (.keep .int (.keep .str (.keep .str (.keep .str .nil)))))))) .nil)) rfl (.cons rfl (.ptr rfl) (.cons rfl (.ptr rfl) (.cons rfl (.dat .bool) (.cons rfl (.dat .bool) .nil)))))⟩
        · have h9 := iteBT h5 hb
          refine rl.run 6 rfl ?_
          refine rl.done ?_
          cases h9
          exact ⟨_, rfl, (Gh.ren0 [0, 1] (.cells rfl rfl (.keep .int (.keep .int (.keep .int (.keep .int (.keep .int (.keep .str (.keep .str (.keep .str .nil)))))))) (.cells rfl rfl (.keep .int (.keep .int (.keep .int (.keep .int (.keep .int (.keep .str (.keep .str (.keep .str .nil)))))))) .nil)) rfl (.cons rfl (.ptr rfl) (.cons rfl (.ptr rfl) (.cons rfl (.dat .bool) (.cons rfl (.dat .bool) .nil)))))⟩
      · have h10 := iteBT ey2 hb
        refine rl.run 10 rfl ?_
        refine rl.done ?_
        cases h10
        exact ⟨_, rfl, (Gh.ren0 [0, 1] (.cells rfl rfl (.keep .int (.keep .int (.keep .int (.keep .int (.keep .int (.keep .str (.keep .str (.keep .str .nil)))))))) (.cells rfl rfl (.keep .int (.keep .int (.keep .int (.keep .int (.keep .int (.keep .str (.keep .str (.keep .str .nil)))))))) .nil)) rfl (.cons rfl (.ptr rfl) (.cons rfl (.ptr rfl) (.cons rfl (.dat .bool) (.cons rfl (.dat .bool) .nil)))))⟩
    · intro y hC
      subst hC
      obtain ⟨y3, ey3, h11⟩ := bindS h4
      refine RW.cutq (σ := Bool × Int) (fun y3 => [(1, .ptr 0 0), (3, .ptr 1 0), (4, .bool y3.1)]) (fun y3 => [some ⟨[.int .i64 x0.Kind, .int .i64 x0.Valid, .int .i64 x0.Uid, .int .i64 x0.Next, .int .i64 x0.Flags, .str x0.User, .str x0.Name, .str x0.Text], 0⟩, some ⟨[.int .i64 0, .int .i64 0, .int .i64 y3.2, .int .i64 x0.Next, .int .i64 x0.Flags, .str x0.User, .str x0.Name, .str x0.Text], 0⟩]) (fun y => y3 = y) (fun _ _ _ _ g h => RW.gh g h) ?_ ?_
      · cases hb : y2
        · have h12 := iteBF ey3 hb
          refine RW.cond_f rfl ?_
          refine RW.skip ?_
          cases h12
          exact ⟨_, rfl, (Gh.ren0 [0, 1] (.cells rfl rfl (.keep .int (.keep .int (.keep .int (.keep .int (.keep .int (.keep .str (.keep .str (.keep .str .nil)))))))) (.cells rfl rfl (.keep .int (.keep .int (.keep .int (.keep .int (.keep .int (.keep .str (.keep .str (.keep .str .nil)))))))) .nil)) rfl (.cons rfl (.ptr rfl) (.cons rfl (.ptr rfl) (.cons rfl (.dat .bool) .nil))))⟩
        · have h13 := iteBT ey3 hb
          refine RW.cond_t rfl ?_
          refine RW.sreg ?_
          refine rl.run 2 rfl ?_
          obtain ⟨v4, e4, h14⟩ := bindS h13
          refine rl.call rfl rfl rfl (CallW.val (r' := .bool v4) ok_impl_in (law_impl_in e4) (.cons .int (.cons .int (.cons .int .nil))) .refl ?_)
          cases hb : v4
          · have h15 := iteBF h14 hb
            refine rl.run 1 rfl ?_
            refine rl.done ?_
            refine RW.reg ?_
            refine rl.run 2 rfl ?_
            refine rl.done ?_
            cases h15
            exact ⟨_, rfl, (Gh.ren0 [0, 1] (.cells rfl rfl (.keep .int (.keep .int (.keep .int (.keep .int (.keep .int (.keep .str (.keep .str (.keep .str .nil)))))))) (.cells rfl rfl (.keep .int (.keep .int (.keep .int (.keep .int (.keep .int (.keep .str (.keep .str (.keep .str .nil)))))))) .nil)) rfl (.cons rfl (.ptr rfl) (.cons rfl (.ptr rfl) (.cons rfl (.dat .bool) .nil))))⟩
          · have h16 := iteBT h14 hb
            refine rl.run 1 rfl ?_
            refine rl.done ?_
            refine RW.reg ?_
            refine rl.run 2 rfl ?_
            refine rl.done ?_
            cases h16
            exact ⟨_, rfl, (Gh.ren0 [0, 1] (.cells rfl rfl (.keep .int (.keep .int (.keep .int (.keep .int (.keep .int (.keep .str (.keep .str (.keep .str .nil)))))))) (.cells rfl rfl (.keep .int (.keep .int (.keep .int (.keep .int (.keep .int (.keep .str (.keep .str (.keep .str .nil)))))))) .nil)) rfl (.cons rfl (.ptr rfl) (.cons rfl (.ptr rfl) (.cons rfl (.dat .bool) .nil))))⟩
      · intro y hC
        subst hC
        refine RW.seq ?_
        refine RW.seq ?_
        obtain ⟨y5, ey5, h17⟩ := bindS h11
        refine RW.cutq (σ := Bool) (fun y5 => [(1, .ptr 0 0), (3, .ptr 1 0), (4, .bool y3.1), (36, .bool y5)]) (fun y5 => [some ⟨[.int .i64 x0.Kind, .int .i64 x0.Valid, .int .i64 x0.Uid, .int .i64 x0.Next, .int .i64 x0.Flags, .str x0.User, .str x0.Name, .str x0.Text], 0⟩, some ⟨[.int .i64 0, .int .i64 0, .int .i64 y3.2, .int .i64 x0.Next, .int .i64 x0.Flags, .str x0.User, .str x0.Name, .str x0.Text], 0⟩]) (fun y => y5 = y) (fun _ _ _ _ g h => RW.gh g h) ?_ ?_
        · refine RW.reg ?_
          refine rl.run 2 rfl ?_
          refine rl.gen rfl rfl fun b hb => ?_
          cases b
          · have h18 := iteBF ey5 hb
            refine rl.run 3 rfl ?_
            refine rl.gen rfl rfl fun b hb => ?_
            cases b
            · have h19 := iteBF h18 hb
              refine rl.run 1 rfl ?_
              refine rl.done ?_
              cases h19
              exact ⟨_, rfl, (Gh.ren0 [0, 1] (.cells rfl rfl (.keep .int (.keep .int (.keep .int (.keep .int (.keep .int (.keep .str (.keep .str (.keep .str .nil)))))))) (.cells rfl rfl (.keep .int (.keep .int (.keep .int (.keep .int (.keep .int (.keep .str (.keep .str (.keep .str .nil)))))))) .nil)) rfl (.cons rfl (.ptr rfl) (.cons rfl (.ptr rfl) (.cons rfl (.dat .bool) (.cons rfl (.dat .bool) .nil)))))⟩
            · have h20 := iteBT h18 hb
              refine rl.run 1 rfl ?_
              refine rl.done ?_
              cases h20
              exact ⟨_, rfl, (Gh.ren0 [0, 1] (.cells rfl rfl (.keep .int (.keep .int (.keep .int (.keep .int (.keep .int (.keep .str (.keep .str (.keep .str .nil)))))))) (.cells rfl rfl (.keep .int (.keep .int (.keep .int (.keep .int (.keep .int (.keep .str (.keep .str (.keep .str .nil)))))))) .nil)) rfl (.cons rfl (.ptr rfl) (.cons rfl (.ptr rfl) (.cons rfl (.dat .bool) (.cons rfl (.dat .bool) .nil)))))⟩
          · have h21 := iteBT ey5 hb
            refine rl.run 5 rfl ?_
            refine rl.done ?_
            cases h21
            exact ⟨_, rfl, (Gh.ren0 [0, 1] (.cells rfl rfl (.keep .int (.keep .int (.keep .int (.keep .int (.keep .int (.keep .str (.keep .str (.keep .str .nil)))))))) (.cells rfl rfl (.keep .int (.keep .int (.keep .int (.keep .int (.keep .int (.keep .str (.keep .str (.keep .str .nil)))))))) .nil)) rfl (.cons rfl (.ptr rfl) (.cons rfl (.ptr rfl) (.cons rfl (.dat .bool) (.cons rfl (.dat .bool) .nil)))))⟩
        · intro y hC
          subst hC
          obtain ⟨y6, ey6, h22⟩ := bindS h17
          refine RW.cutq (σ := Bool × Int) (fun y6 => [(1, .ptr 0 0), (3, .ptr 1 0), (4, .bool y6.1)]) (fun y6 => [some ⟨[.int .i64 x0.Kind, .int .i64 x0.Valid, .int .i64 x0.Uid, .int .i64 x0.Next, .int .i64 x0.Flags, .str x0.User, .str x0.Name, .str x0.Text], 0⟩, some ⟨[.int .i64 0, .int .i64 0, .int .i64 y3.2, .int .i64 x0.Next, .int .i64 y6.2, .str x0.User, .str x0.Name, .str x0.Text], 0⟩]) (fun y => y6 = y) (fun _ _ _ _ g h => RW.gh g h) ?_ ?_
          · cases hb : y5
            · have h23 := iteBF ey6 hb
              refine RW.cond_f rfl ?_
              refine RW.skip ?_
              cases h23
              exact ⟨_, rfl, (Gh.ren0 [0, 1] (.cells rfl rfl (.keep .int (.keep .int (.keep .int (.keep .int (.keep .int (.keep .str (.keep .str (.keep .str .nil)))))))) (.cells rfl rfl (.keep .int (.keep .int (.keep .int (.keep .int (.keep .int (.keep .str (.keep .str (.keep .str .nil)))))))) .nil)) rfl (.cons rfl (.ptr rfl) (.cons rfl (.ptr rfl) (.cons rfl (.dat .bool) .nil))))⟩
            · have h24 := iteBT ey6 hb
              refine RW.cond_t rfl ?_
              refine RW.seq ?_
              obtain ⟨y7, ey7, h25⟩ := bindS h24
              refine RW.cutq (σ := Bool) (fun y7 => [(1, .ptr 0 0), (3, .ptr 1 0), (4, .bool y7)]) (fun y7 => [some ⟨[.int .i64 x0.Kind, .int .i64 x0.Valid, .int .i64 x0.Uid, .int .i64 x0.Next, .int .i64 x0.Flags, .str x0.User, .str x0.Name, .str x0.Text], 0⟩, some ⟨[.int .i64 0, .int .i64 0, .int .i64 y3.2, .int .i64 x0.Next, .int .i64 x0.Flags, .str x0.User, .str x0.Name, .str x0.Text], 0⟩]) (fun y => y7 = y) (fun _ _ _ _ g h => RW.gh g h) ?_ ?_
              · refine RW.reg ?_
                refine rl.run 2 rfl ?_
                cases hb : y3.1
                · have h26 := iteBF ey7 hb
                  refine rl.run 5 rfl ?_
                  refine rl.done ?_
                  cases h26
                  exact ⟨_, rfl, (Gh.ren0 [0, 1] (.cells rfl rfl (.keep .int (.keep .int (.keep .int (.keep .int (.keep .int (.keep .str (.keep .str (.keep .str .nil)))))))) (.cells rfl rfl (.keep .int (.keep .int (.keep .int (.keep .int (.keep .int (.keep .str (.keep .str (.keep .str .nil)))))))) .nil)) rfl (.cons rfl (.ptr rfl) (.cons rfl (.ptr rfl) (.cons rfl (.dat .bool) .nil))))⟩
                · have h27 := iteBT ey7 hb
                  refine rl.run 2 rfl ?_
                  obtain ⟨v8, e8, h28⟩ := bindS h27
                  refine rl.call rfl rfl rfl (CallW.val (r' := .bool v8) ok_impl_in (law_impl_in e8) (.cons .int (.cons .int (.cons .int .nil))) .refl ?_)
                  cases hb : v8
                  · have h29 := iteBF h28 hb
                    refine rl.run 2 rfl ?_
                    refine rl.done ?_
                    cases h29
                    exact ⟨_, rfl, (Gh.ren0 [0, 1] (.cells rfl rfl (.keep .int (.keep .int (.keep .int (.keep .int (.keep .int (.keep .str (.keep .str (.keep .str .nil)))))))) (.cells rfl rfl (.keep .int (.keep .int (.keep .int (.keep .int (.keep .int (.keep .str (.keep .str (.keep .str .nil)))))))) .nil)) rfl (.cons rfl (.ptr rfl) (.cons rfl (.ptr rfl) (.cons rfl (.dat .bool) .nil))))⟩
                  · have h30 := iteBT h28 hb
                    refine rl.run 2 rfl ?_
                    refine rl.done ?_
                    cases h30
                    exact ⟨_, rfl, (Gh.ren0 [0, 1] (.cells rfl rfl (.keep .int (.keep .int (.keep .int (.keep .int (.keep .int (.keep .str (.keep .str (.keep .str .nil)))))))) (.cells rfl rfl (.keep .int (.keep .int (.keep .int (.keep .int (.keep .int (.keep .str (.keep .str (.keep .str .nil)))))))) .nil)) rfl (.cons rfl (.ptr rfl) (.cons rfl (.ptr rfl) (.cons rfl (.dat .bool) .nil))))⟩
              · intro y hC
                subst hC
                refine RW.reg ?_
                refine rl.run 2 rfl ?_
                refine rl.done ?_
                cases h25
                exact ⟨_, rfl, (Gh.ren0 [0, 1] (.cells rfl rfl (.keep .int (.keep .int (.keep .int (.keep .int (.keep .int (.keep .str (.keep .str (.keep .str .nil)))))))) (.cells rfl rfl (.keep .int (.keep .int (.keep .int (.keep .int (.keep .int (.keep .str (.keep .str (.keep .str .nil)))))))) .nil)) rfl (.cons rfl (.ptr rfl) (.cons rfl (.ptr rfl) (.cons rfl (.dat .bool) .nil))))⟩
          · intro y hC
            subst hC
            refine RW.seq ?_
            refine RW.sreg ?_
            refine rl.run 2 rfl ?_
            refine rl.done ?_
            obtain ⟨y9, ey9, h31⟩ := bindS h22
            refine RW.cutq (σ := Bool × Int × (List UInt8) × (List UInt8) × (List UInt8)) (fun y9 => [(3, .ptr 0 0), (4, .bool y9.1)]) (fun y9 => [some ⟨[.int .i64 0, .int .i64 0, .int .i64 y3.2, .int .i64 y9.2.1, .int .i64 y6.2, .str y9.2.2.1, .str y9.2.2.2.1, .str y9.2.2.2.2], 0⟩]) (fun y => y9 = .inr y) (fun _ _ _ _ g h => RW.gh g h) ?_ ?_
            · refine RW.blk ?_
              refine RW.sreg ?_
              refine rl.gen rfl rfl fun b hb => ?_
              cases b
              · have h32 := iteBF ey9 hb
                refine rl.run 1 rfl ?_
                refine rl.done ?_
                refine RW.cond_f rfl ?_
                refine RW.sreg ?_
                refine rl.gen rfl rfl fun b hb => ?_
                cases b
                · have h33 := iteBF h32 hb
                  refine rl.run 1 rfl ?_
                  refine rl.done ?_
                  refine RW.cond_f rfl ?_
                  refine RW.seq ?_
                  refine RW.sreg ?_
                  refine rl.gen rfl rfl fun b hb => ?_
                  cases b
                  · have h34 := iteBF h33 hb
                    refine rl.run 1 rfl ?_
                    refine rl.done ?_
                    refine RW.cond_f rfl ?_
                    refine RW.sreg ?_
                    refine rl.gen rfl rfl fun b hb => ?_
                    cases b
                    · have h35 := iteBF h34 hb
                      refine rl.run 1 rfl ?_
                      refine rl.done ?_
                      refine RW.cond_f rfl ?_
                      refine RW.reg ?_
                      refine rl.gen rfl rfl fun b hb => ?_
                      cases b
                      · have h36 := iteBF h35 hb
                        refine rl.run 1 rfl ?_
                        refine rl.done ?_
                        refine RW.cond_f rfl ?_
                        refine RW.sreg ?_
                        refine rl.run 1 rfl ?_
                        refine rl.done ?_
                        refine RW.keep [2] (a' := [(2, .bool false)]) (H' := [some ⟨[.int .i64 x0.Kind, .int .i64 x0.Valid, .int .i64 x0.Uid, .int .i64 x0.Next, .int .i64 x0.Flags, .str x0.User, .str x0.Name, .str x0.Text], 0⟩, some ⟨[.int .i64 0, .int .i64 0, .int .i64 y3.2, .int .i64 x0.Next, .int .i64 y6.2, .str x0.User, .str x0.Name, .str x0.Text], 0⟩]) rfl rfl ?_
                        refine RW.ret ?_
                        cases h36
                        have h37 := elimL h31 rfl
                        cases h37
                        exact RRet.mk rfl .bool (by decide)
                      · have h38 := iteBT h35 hb
                        refine rl.run 1 rfl ?_
                        refine rl.done ?_
                        refine RW.cond_t rfl ?_
                        refine RW.skip ?_
                        cases h38
                        exact ⟨_, rfl, (Gh.ren0 [1] (.cells rfl rfl (.keep .int (.keep .int (.keep .int (.keep .int (.keep .int (.keep .str (.keep .str (.keep .str .nil)))))))) .nil) rfl (.cons rfl (.ptr rfl) (.cons rfl (.dat .bool) .nil)))⟩
                    · have h39 := iteBT h34 hb
                      refine rl.run 1 rfl ?_
                      refine rl.done ?_
                      refine RW.cond_t rfl ?_
                      refine RW.skip ?_
                      refine RW.cond_t rfl ?_
                      refine RW.skip ?_
                      cases h39
                      exact ⟨_, rfl, (Gh.ren0 [1] (.cells rfl rfl (.keep .int (.keep .int (.keep .int (.keep .int (.keep .int (.keep .str (.keep .str (.keep .str .nil)))))))) .nil) rfl (.cons rfl (.ptr rfl) (.cons rfl (.dat .bool) .nil)))⟩
                  · have h40 := iteBT h33 hb
                    refine rl.run 1 rfl ?_
                    refine rl.done ?_
                    refine RW.cond_t rfl ?_
                    refine RW.skip ?_
                    refine RW.cond_t rfl ?_
                    refine RW.skip ?_
                    cases h40
                    exact ⟨_, rfl, (Gh.ren0 [1] (.cells rfl rfl (.keep .int (.keep .int (.keep .int (.keep .int (.keep .int (.keep .str (.keep .str (.keep .str .nil)))))))) .nil) rfl (.cons rfl (.ptr rfl) (.cons rfl (.dat .bool) .nil)))⟩
                · have h41 := iteBT h32 hb
                  refine rl.run 1 rfl ?_
                  refine rl.done ?_
                  refine RW.cond_t rfl ?_
                  refine RW.seq ?_
                  obtain ⟨y10, ey10, h42⟩ := bindS h41
                  refine RW.cutq (σ := Bool) (fun y10 => [(3, .ptr 0 0), (4, .bool y10)]) (fun y10 => [some ⟨[.int .i64 0, .int .i64 0, .int .i64 y3.2, .int .i64 x0.Next, .int .i64 y6.2, .str x0.User, .str x0.Name, .str x0.Text], 0⟩]) (fun y => y10 = y) (fun _ _ _ _ g h => RW.gh g h) ?_ ?_
                  · refine RW.reg ?_
                    refine rl.run 2 rfl ?_
                    cases hb : y6.1
                    · have h43 := iteBF ey10 hb
                      refine rl.run 6 rfl ?_
                      refine rl.done ?_
                      cases h43
                      exact ⟨_, rfl, (Gh.ren0 [1] (.cells rfl rfl (.keep .int (.keep .int (.keep .int (.keep .int (.keep .int (.keep .str (.keep .str (.keep .str .nil)))))))) .nil) rfl (.cons rfl (.ptr rfl) (.cons rfl (.dat .bool) .nil)))⟩
                    · have h44 := iteBT ey10 hb
                      refine rl.run 3 rfl ?_
                      refine rl.gen rfl rfl fun b hb => ?_
                      cases b
                      · have h45 := iteBF h44 hb
                        refine rl.run 2 rfl ?_
                        refine rl.done ?_
                        cases h45
                        exact ⟨_, rfl, (Gh.ren0 [1] (.cells rfl rfl (.keep .int (.keep .int (.keep .int (.keep .int (.keep .int (.keep .str (.keep .str (.keep .str .nil)))))))) .nil) rfl (.cons rfl (.ptr rfl) (.cons rfl (.dat .bool) .nil)))⟩
                      · have h46 := iteBT h44 hb
                        refine rl.run 2 rfl ?_
                        refine rl.done ?_
                        cases h46
                        exact ⟨_, rfl, (Gh.ren0 [1] (.cells rfl rfl (.keep .int (.keep .int (.keep .int (.keep .int (.keep .int (.keep .str (.keep .str (.keep .str .nil)))))))) .nil) rfl (.cons rfl (.ptr rfl) (.cons rfl (.dat .bool) .nil)))⟩
                  · intro y hC
                    subst hC
                    refine RW.reg ?_
                    refine rl.run 2 rfl ?_
                    refine rl.done ?_
                    cases h42
                    exact ⟨_, rfl, (Gh.ren0 [0] (.cells rfl rfl (.keep .int (.keep .int (.keep .int (.keep .int (.keep .int (.keep .str (.keep .str (.keep .str .nil)))))))) .nil) rfl (.cons rfl (.ptr rfl) (.cons rfl (.dat .bool) .nil)))⟩
              · have h47 := iteBT ey9 hb
                refine rl.run 1 rfl ?_
                refine rl.done ?_
                refine RW.cond_t rfl ?_
                refine RW.seq ?_
                obtain ⟨y11, ey11, h48⟩ := bindS h47
                refine RW.cutq (σ := Bool) (fun y11 => [(3, .ptr 0 0), (4, .bool y11)]) (fun y11 => [some ⟨[.int .i64 0, .int .i64 0, .int .i64 y3.2, .int .i64 x0.Next, .int .i64 y6.2, .str x0.User, .str x0.Name, .str x0.Text], 0⟩]) (fun y => y11 = y) (fun _ _ _ _ g h => RW.gh g h) ?_ ?_
                · refine RW.reg ?_
                  refine rl.run 2 rfl ?_
                  obtain ⟨v12, e12, h49⟩ := bindS ey11
                  refine rl.call rfl rfl rfl (CallW.val (r' := .bool v12) ok_impl_WordOk (law_impl_WordOk e12) (.cons .str .nil) .refl ?_)
                  cases hb : v12
                  · have h50 := iteBF h49 hb
                    refine rl.run 11 rfl ?_
                    refine rl.done ?_
                    cases h50
                    exact ⟨_, rfl, (Gh.ren0 [1] (.cells rfl rfl (.keep .int (.keep .int (.keep .int (.keep .int (.keep .int (.keep .str (.keep .str (.keep .str .nil)))))))) .nil) rfl (.cons rfl (.ptr rfl) (.cons rfl (.dat .bool) .nil)))⟩
                  · have h51 := iteBT h49 hb
                    refine rl.run 3 rfl ?_
                    obtain ⟨v13, e13, h52⟩ := bindS h51
                    refine rl.call rfl rfl rfl (CallW.val (r' := .bool v13) ok_impl_WordOk (law_impl_WordOk e13) (.cons .str .nil) .refl ?_)
                    cases hb : v13
                    · have h53 := iteBF h52 hb
                      refine rl.run 7 rfl ?_
                      refine rl.done ?_
                      cases h53
                      exact ⟨_, rfl, (Gh.ren0 [1] (.cells rfl rfl (.keep .int (.keep .int (.keep .int (.keep .int (.keep .int (.keep .str (.keep .str (.keep .str .nil)))))))) .nil) rfl (.cons rfl (.ptr rfl) (.cons rfl (.dat .bool) .nil)))⟩
                    · have h54 := iteBT h52 hb
                      refine rl.run 4 rfl ?_
                      obtain ⟨v14, e14, h55⟩ := bindS h54
                      refine rl.call rfl rfl rfl (CallW.val (r' := .bool v14) ok_impl_in (law_impl_in e14) (.cons .int (.cons .int (.cons .int .nil))) .refl ?_)
                      cases hb : v14
                      · have h56 := iteBF h55 hb
                        refine rl.run 2 rfl ?_
                        refine rl.done ?_
                        cases h56
                        exact ⟨_, rfl, (Gh.ren0 [1] (.cells rfl rfl (.keep .int (.keep .int (.keep .int (.keep .int (.keep .int (.keep .str (.keep .str (.keep .str .nil)))))))) .nil) rfl (.cons rfl (.ptr rfl) (.cons rfl (.dat .bool) .nil)))⟩
                      · have h57 := iteBT h55 hb
                        refine rl.run 2 rfl ?_
                        refine rl.done ?_
                        cases h57
                        exact ⟨_, rfl, (Gh.ren0 [1] (.cells rfl rfl (.keep .int (.keep .int (.keep .int (.keep .int (.keep .int (.keep .str (.keep .str (.keep .str .nil)))))))) .nil) rfl (.cons rfl (.ptr rfl) (.cons rfl (.dat .bool) .nil)))⟩
                · intro y hC
                  subst hC
                  refine RW.reg ?_
                  refine rl.run 6 rfl ?_
                  refine rl.done ?_
                  cases h48
                  exact ⟨_, rfl, (Gh.ren0 [0] (.cells rfl rfl (.keep .int (.keep .int (.keep .int (.keep .int (.keep .int (.keep .str (.keep .str (.keep .str .nil)))))))) .nil) rfl (.cons rfl (.ptr rfl) (.cons rfl (.dat .bool) .nil)))⟩
            · intro y9_ hC
              have h31 := elimR h31 hC
              refine RW.sreg ?_
              refine rl.run 2 rfl ?_
              cases hb : y9_.1
              · have h58 := iteBF h31 hb
                refine rl.run 5 rfl ?_
                refine rl.done ?_
                refine RW.ret ?_
                cases h58
                exact RRet.mk rfl .bool (by decide)
              · have h59 := iteBT h31 hb
                refine rl.run 5 rfl ?_
                refine rl.done ?_
                refine RW.ret ?_
                cases h59
                exact RRet.mk rfl .bool (by decide)
theorem law_impl_RecText {x0 : TRec} {r : (List UInt8) × Bool} (hF : F_impl_RecText x0 = some r) : PCalls Try.prog 79 [.agg (enc_TRec false x0)] (.tup [.str r.1, .bool r.2]) := by
  refine PCalls.of_r k_impl_RecText rfl ?_
  unfold F_impl_RecText at hF
  refine RW.sreg ?_
  refine rl.run 3 rfl ?_
  refine rl.done ?_
  refine RW.seq ?_
  refine RW.sreg ?_
  refine rl.run 1 rfl ?_
  obtain ⟨v1, e1, h1⟩ := bindS hF
  refine rl.call rfl rfl rfl (CallW.val (r' := .bool v1) ok_impl_RecOk (law_impl_RecOk e1) (.cons (DFL.agg (.cons .int (.cons .int (.cons .int (.cons .int (.cons .int (.cons .str (.cons .str (.cons .str .nil))))))))) .nil) .refl ?_)
  cases hb : v1
  · have h2 := iteBF h1 hb
    refine rl.run 1 rfl ?_
    refine rl.done ?_
    refine RW.cond_t rfl ?_
    refine RW.sreg ?_
    refine rl.run 2 rfl ?_
    refine rl.done ?_
    refine RW.ret ?_
    cases h2
    exact RRet.mk rfl (OutT.tup (.cons .str (.cons .bool .nil))) (by decide)
  · have h3 := iteBT h1 hb
    refine rl.run 1 rfl ?_
    refine rl.done ?_
    refine RW.cond_f rfl ?_
    refine RW.skip ?_
    refine RW.sreg ?_
    refine rl.run 4 rfl ?_
    refine rl.op (x_cvb_sl (o := true) (l := [IntKind.u8.wrap x0.Kind]) rfl rfl) ?_
    refine rl.run 1 rfl ?_
    refine rl.done ?_
    refine RW.keep [1, 4] (a' := [(1, .ptr 0 0), (4, .str ([IntKind.u8.wrap x0.Kind].map ofI))]) (H' := [some ⟨[.int .i64 x0.Kind, .int .i64 x0.Valid, .int .i64 x0.Uid, .int .i64 x0.Next, .int .i64 x0.Flags, .str x0.User, .str x0.Name, .str x0.Text], 0⟩, some ⟨fl (encB true) [IntKind.u8.wrap x0.Kind], 1⟩]) rfl rfl ?_
    refine RW.seq ?_
    refine RW.sreg ?_
    refine rl.run 11 rfl ?_
    refine rl.done ?_
    obtain ⟨y7, ey7, h5⟩ := bindS h3
    refine RW.cutq (σ := (List UInt8)) (fun y3 => [(1, .ptr 0 0), (4, .str y3)]) (fun y3 => [some ⟨[.int .i64 x0.Kind, .int .i64 x0.Valid, .int .i64 x0.Uid, .int .i64 x0.Next, .int .i64 x0.Flags, .str x0.User, .str x0.Name, .str x0.Text], 0⟩]) (fun y => y7 = y) (fun _ _ _ _ g h => RW.gh g h) ?_ ?_
    · refine RW.blk ?_
      refine RW.iter (σ := (List UInt8) × Int) ey7 (fun s2 => [(1, .ptr 0 0), (4, .str s2.1), (25, .sl 1 0 [x0.Valid, x0.Uid, x0.Next, x0.Flags].length), (26, .int .i64 ([x0.Valid, x0.Uid, x0.Next, x0.Flags].length : Int)), (27, .int .i64 s2.2)]) (fun s2 => [some ⟨[.int .i64 x0.Kind, .int .i64 x0.Valid, .int .i64 x0.Uid, .int .i64 x0.Next, .int .i64 x0.Flags, .str x0.User, .str x0.Name, .str x0.Text], 0⟩, some ⟨fl (encI true) [x0.Valid, x0.Uid, x0.Next, x0.Flags], 1⟩]) (Gh.ren0 [0, 2] (.cells rfl rfl (.keep .int (.keep .int (.keep .int (.keep .int (.keep .int (.keep .str (.keep .str (.keep .str .nil)))))))) (.same rfl (ekI.fref _ _) .nil)) rfl (.cons rfl (.ptr rfl) (.cons rfl (.dat .str) (.cons rfl (.slq rfl rfl) (.cons rfl (.dat .int) (.cons rfl (.dat .int) .nil)))))) (fun s2 B o hS4 hB4 hE4 => ?_)
      unfold S_impl_RecText_1 at hS4
      refine RW.sreg ?_
      refine rl.gen rfl rfl fun b hb => ?_
      cases b
      · have h6 := iteBF hS4 hb
        refine rl.done ?_
        refine RW.seq ?_
        refine RW.cond_f rfl ?_
        refine RW.exit ?_
        refine blkA_eq ?_
        cases h6
        exact ⟨_, (hE4 _ rfl).symm, (Gh.ren0 [0] (.cells rfl rfl (.keep .int (.keep .int (.keep .int (.keep .int (.keep .int (.keep .str (.keep .str (.keep .str .nil)))))))) .nil) rfl (.cons rfl (.ptr rfl) (.cons rfl (.dat .str) .nil)))⟩
      · have h7 := iteBT hS4 hb
        refine rl.done ?_
        refine RW.seq ?_
        refine RW.cond_t rfl ?_
        refine RW.skip ?_
        refine RW.seq ?_
        refine RW.blk ?_
        refine RW.sreg ?_
        obtain ⟨v4, e4, h8⟩ := bindS h7
        refine rl.op (x_ia_sl rfl rfl rfl rfl e4) ?_
        refine rl.op (x_ld_sl (off' := 0) ekI rfl rfl e4 rfl rfl rfl) ?_
        refine rl.run 1 rfl ?_
        refine rl.done ?_
        refine RW.reg ?_
        refine rl.run 2 rfl ?_
        obtain ⟨v5, e5, h9⟩ := bindS h8
        refine rl.call rfl rfl rfl (CallW.val (r' := .str v5) ok_impl_varText (law_impl_varText e5) (.cons .int .nil) .refl ?_)
        obtain ⟨v6, e6, h10⟩ := bindS h9
        refine rl.op (x_cat rfl rfl e6) ?_
        refine rl.run 1 rfl ?_
        refine rl.done ?_
        refine RW.reg ?_
        refine rl.run 2 rfl ?_
        refine rl.done ?_
        cases h10
        exact hB4 _ rfl _ _ (Gh.ren0 [0, 1] (.cells rfl rfl (.keep .int (.keep .int (.keep .int (.keep .int (.keep .int (.keep .str (.keep .str (.keep .str .nil)))))))) (.same rfl (ekI.fref _ _) .nil)) rfl (.cons rfl (.ptr rfl) (.cons rfl (.dat .str) (.cons rfl (.slq rfl rfl) (.cons rfl (.dat .int) (.cons rfl (.dat .int) .nil))))))
    · intro y3 hC
      subst hC
      refine RW.seq ?_
      refine RW.sreg ?_
      refine rl.run 9 rfl ?_
      refine rl.done ?_
      obtain ⟨y14, ey14, h12⟩ := bindS h5
      refine RW.cutq (σ := (List UInt8)) (fun y9 => [(4, .str y9)]) (fun y9 => []) (fun y => y14 = y) (fun _ _ _ _ g h => RW.gh g h) ?_ ?_
      · refine RW.blk ?_
        refine RW.iter (σ := (List UInt8) × Int) ey14 (fun s8 => [(4, .str s8.1), (42, .sl 0 0 [x0.User, x0.Name, x0.Text].length), (43, .int .i64 ([x0.User, x0.Name, x0.Text].length : Int)), (44, .int .i64 s8.2)]) (fun s8 => [some ⟨fl (encS true) [x0.User, x0.Name, x0.Text], 1⟩]) (Gh.ren0 [1] (.same rfl (ekS.fref _ _) .nil) rfl (.cons rfl (.dat .str) (.cons rfl (.slq rfl rfl) (.cons rfl (.dat .int) (.cons rfl (.dat .int) .nil))))) (fun s8 B o hS11 hB11 hE11 => ?_)
        unfold S_impl_RecText_2 at hS11
        refine RW.sreg ?_
        refine rl.gen rfl rfl fun b hb => ?_
        cases b
        · have h13 := iteBF hS11 hb
          refine rl.done ?_
          refine RW.seq ?_
          refine RW.cond_f rfl ?_
          refine RW.exit ?_
          refine blkA_eq ?_
          cases h13
          exact ⟨_, (hE11 _ rfl).symm, (Gh.ren0 [] .nil rfl (.cons rfl (.dat .str) .nil))⟩
        · have h14 := iteBT hS11 hb
          refine rl.done ?_
          refine RW.seq ?_
          refine RW.cond_t rfl ?_
          refine RW.skip ?_
          refine RW.seq ?_
          refine RW.blk ?_
          refine RW.sreg ?_
          obtain ⟨v10, e10, h15⟩ := bindS h14
          refine rl.op (x_ia_sl rfl rfl rfl rfl e10) ?_
          refine rl.op (x_ld_sl (off' := 0) ekS rfl rfl e10 rfl rfl rfl) ?_
          refine rl.run 1 rfl ?_
          refine rl.done ?_
          refine RW.reg ?_
          refine rl.run 3 rfl ?_
          obtain ⟨v11, e11, h16⟩ := bindS h15
          refine rl.call rfl rfl rfl (CallW.val (r' := .str v11) ok_impl_varText (law_impl_varText e11) (.cons .int .nil) .refl ?_)
          refine rl.run 1 rfl ?_
          obtain ⟨v12, e12, h17⟩ := bindS h16
          refine rl.op (x_cat rfl rfl e12) ?_
          obtain ⟨v13, e13, h18⟩ := bindS h17
          refine rl.op (x_cat rfl rfl e13) ?_
          refine rl.run 1 rfl ?_
          refine rl.done ?_
          refine RW.reg ?_
          refine rl.run 2 rfl ?_
          refine rl.done ?_
          cases h18
          exact hB11 _ rfl _ _ (Gh.ren0 [0] (.same rfl (ekS.fref _ _) .nil) rfl (.cons rfl (.dat .str) (.cons rfl (.slq rfl rfl) (.cons rfl (.dat .int) (.cons rfl (.dat .int) .nil)))))
      · intro y9 hC
        subst hC
        refine RW.sreg ?_
        refine rl.run 3 rfl ?_
        refine rl.done ?_
        refine RW.ret ?_
        cases h12
        exact RRet.mk rfl (OutT.tup (.cons .str (.cons .bool .nil))) (by decide)
theorem law_impl_FrameOk {x0 : TFrame} {r : Bool} (hF : F_impl_FrameOk x0 = some r) : PCalls Try.prog 80 [.agg (enc_TFrame false x0)] (.bool r) := by
  refine PCalls.of_r k_impl_FrameOk rfl ?_
  unfold F_impl_FrameOk at hF
  refine RW.sreg ?_
  refine rl.run 2 rfl ?_
  refine rl.done ?_
  refine RW.seq ?_
  obtain ⟨y1, ey1, h1⟩ := bindS hF
  refine RW.cutq (σ := Bool) (fun y1 => [(2, .bool y1)]) (fun y1 => []) (fun y => y1 = y) (fun _ _ _ _ g h => RW.gh g h) ?_ ?_
  · refine RW.reg ?_
    refine rl.run 2 rfl ?_
    obtain ⟨v2, e2, h2⟩ := bindS ey1
    refine rl.call rfl rfl rfl (CallW.val (r' := .bool v2) ok_impl_in (law_impl_in e2) (.cons .int (.cons .int (.cons .int .nil))) .refl ?_)
    cases hb : v2
    · have h3 := iteBF h2 hb
      refine rl.run 12 rfl ?_
      refine rl.done ?_
      cases h3
      exact ⟨_, rfl, (Gh.ren0 [] .nil rfl (.cons rfl (.dat .bool) .nil))⟩
    · have h4 := iteBT h2 hb
      refine rl.run 3 rfl ?_
      obtain ⟨v3, e3, h5⟩ := bindS h4
      refine rl.call rfl rfl rfl (CallW.val (r' := .bool v3) ok_impl_in (law_impl_in e3) (.cons .int (.cons .int (.cons .int .nil))) .refl ?_)
      cases hb : v3
      · have h6 := iteBF h5 hb
        refine rl.run 8 rfl ?_
        refine rl.done ?_
        cases h6
        exact ⟨_, rfl, (Gh.ren0 [] .nil rfl (.cons rfl (.dat .bool) .nil))⟩
      · have h7 := iteBT h5 hb
        refine rl.run 5 rfl ?_
        obtain ⟨v4, e4, h8⟩ := bindS h7
        refine rl.call rfl rfl rfl (CallW.val (r' := .bool v4) ok_impl_in (law_impl_in e4) (.cons .int (.cons .int (.cons .int .nil))) .refl ?_)
        refine rl.run 2 rfl ?_
        refine rl.done ?_
        cases h8
        exact ⟨_, rfl, (Gh.ren0 [] .nil rfl (.cons rfl (.dat .bool) .nil))⟩
  · intro y hC
    subst hC
    refine RW.ret ?_
    cases h1
    exact RRet.mk rfl .bool (by decide)
theorem law_impl_ItemFrame {x0 : TItem} {x1 : Int} {r : TFrame × Bool} (hF : F_impl_ItemFrame x0 x1 = some r) : PCalls Try.prog 55 [.agg (enc_TItem false x0), .int .i64 x1] (.tup [.agg (enc_TFrame true r.1), .bool r.2]) := by
  refine PCalls.of_r k_impl_ItemFrame rfl ?_
  unfold F_impl_ItemFrame at hF
  refine RW.sreg ?_
  refine rl.run 3 rfl ?_
  refine rl.done ?_
  refine RW.sreg ?_
  refine rl.run 2 rfl ?_
  obtain ⟨v1, e1, h1⟩ := bindS hF
  refine rl.call rfl rfl rfl (CallW.val (r' := .tup [.str v1.1, .bool v1.2]) ok_impl_RecText (law_impl_RecText e1) (.cons (DFL.agg (.cons .int (.cons .int (.cons .int (.cons .int (.cons .int (.cons .str (.cons .str (.cons .str .nil))))))))) .nil) (FlL.tup (.cons .refl (.cons .refl .nil))) ?_)
  refine rl.run 5 rfl ?_
  refine rl.done ?_
  refine RW.sreg ?_
  refine rl.run 7 rfl ?_
  refine rl.done ?_
  refine RW.keep [4, 7, 8] (a' := [(4, .ptr 1 0), (7, .bool v1.2), (8, .ptr 2 0)]) (H' := [some ⟨[.int .i64 x0.Seq, .int .i64 x0.Rec.Kind, .int .i64 x0.Rec.Valid, .int .i64 x0.Rec.Uid, .int .i64 x0.Rec.Next, .int .i64 x0.Rec.Flags, .str x0.Rec.User, .str x0.Rec.Name, .str x0.Rec.Text], 0⟩, some ⟨[.int .i64 0, .int .i64 0, .str []], 0⟩, some ⟨[.int .i64 x1, .int .i64 x0.Seq, .str v1.1], 0⟩]) rfl rfl ?_
  refine RW.seq ?_
  refine RW.seq ?_
  obtain ⟨y2, ey2, h2⟩ := bindS h1
  refine RW.cutq (σ := Bool) (fun y2 => [(4, .ptr 0 0), (8, .ptr 1 0), (26, .bool y2)]) (fun y2 => [some ⟨[.int .i64 0, .int .i64 0, .str []], 0⟩, some ⟨[.int .i64 x1, .int .i64 x0.Seq, .str v1.1], 0⟩]) (fun y => y2 = y) (fun _ _ _ _ g h => RW.gh g h) ?_ ?_
  · refine RW.reg ?_
    refine rl.run 3 rfl ?_
    cases hb : (!v1.2)
    · have h3 := iteBF ey2 hb
      refine rl.run 1 rfl ?_
      obtain ⟨v3, e3, h4⟩ := bindS h3
      refine rl.call rfl rfl rfl (CallW.val (r' := .bool v3) ok_impl_FrameOk (law_impl_FrameOk e3) (.cons (DFL.agg (.cons .int (.cons .int (.cons .str .nil)))) .nil) .refl ?_)
      cases hb : v3
      · have h5 := iteBF h4 hb
        refine rl.run 2 rfl ?_
        refine rl.done ?_
        cases h5
        exact ⟨_, rfl, (Gh.ren0 [1, 2] (.cells rfl rfl (.keep .int (.keep .int (.keep .str .nil))) (.cells rfl rfl (.keep .int (.keep .int (.keep .str .nil))) .nil)) rfl (.cons rfl (.ptr rfl) (.cons rfl (.ptr rfl) (.cons rfl (.dat .bool) .nil))))⟩
      · have h6 := iteBT h4 hb
        refine rl.run 2 rfl ?_
        refine rl.done ?_
        cases h6
        exact ⟨_, rfl, (Gh.ren0 [1, 2] (.cells rfl rfl (.keep .int (.keep .int (.keep .str .nil))) (.cells rfl rfl (.keep .int (.keep .int (.keep .str .nil))) .nil)) rfl (.cons rfl (.ptr rfl) (.cons rfl (.ptr rfl) (.cons rfl (.dat .bool) .nil))))⟩
    · have h7 := iteBT ey2 hb
      refine rl.run 4 rfl ?_
      refine rl.done ?_
      cases h7
      exact ⟨_, rfl, (Gh.ren0 [1, 2] (.cells rfl rfl (.keep .int (.keep .int (.keep .str .nil))) (.cells rfl rfl (.keep .int (.keep .int (.keep .str .nil))) .nil)) rfl (.cons rfl (.ptr rfl) (.cons rfl (.ptr rfl) (.cons rfl (.dat .bool) .nil))))⟩
  · intro y hC
    subst hC
    cases hb : y2
    · have h8 := iteBF h2 hb
      refine RW.cond_f rfl ?_
      refine RW.skip ?_
      refine RW.sreg ?_
      refine rl.run 3 rfl ?_
      refine rl.done ?_
      refine RW.ret ?_
      cases h8
      exact RRet.mk rfl (OutT.tup (.cons (OutL.agg (.cons .int rfl (.cons .int rfl (.cons .str rfl .nil)))) (.cons .bool .nil))) (by decide)
    · have h9 := iteBT h2 hb
      refine RW.cond_t rfl ?_
      refine RW.sreg ?_
      refine rl.run 3 rfl ?_
      refine rl.done ?_
      refine RW.ret ?_
      cases h9
      exact RRet.mk rfl (OutT.tup (.cons (OutL.agg (.cons .int rfl (.cons .int rfl (.cons .str rfl .nil)))) (.cons .bool .nil))) (by decide)
theorem law_impl_SumMore {x0 : Int} {x1 : List UInt8} {r : Int} (hF : F_impl_SumMore x0 x1 = some r) : PCalls Try.prog 101 [.int .u32 x0, .str x1] (.int .u32 r) := by
  refine PCalls.of_r k_impl_SumMore rfl ?_
  unfold F_impl_SumMore at hF
  refine RW.sreg ?_
  refine rl.run 1 rfl ?_
  refine rl.done ?_
  refine RW.seq ?_
  refine RW.sreg ?_
  refine rl.run 3 rfl ?_
  refine rl.done ?_
  obtain ⟨y7, ey7, h2⟩ := bindS hF
  refine RW.cutq (σ := Int) (fun y2 => [(0, .int .u32 y2)]) (fun y2 => []) (fun y => y7 = y) (fun _ _ _ _ g h => RW.gh g h) ?_ ?_
  · refine RW.blk ?_
    refine RW.iter (σ := Int × Int) ey7 (fun s1 => [(0, .int .u32 s1.1), (1, .str x1), (8, .int .i64 (x1.length : Int)), (9, .int .i64 s1.2)]) (fun s1 => []) (Gh.ren0 [] .nil rfl (.cons rfl (.dat .int) (.cons rfl (.dat .str) (.cons rfl (.dat .int) (.cons rfl (.dat .int) .nil))))) (fun s1 B o hS1 hB1 hE1 => ?_)
    unfold S_impl_SumMore_1 at hS1
    refine RW.sreg ?_
    refine rl.gen rfl rfl fun b hb => ?_
    cases b
    · have h3 := iteBF hS1 hb
      refine rl.done ?_
      refine RW.seq ?_
      refine RW.cond_f rfl ?_
      refine RW.exit ?_
      refine blkA_eq ?_
      cases h3
      exact ⟨_, (hE1 _ rfl).symm, (Gh.ren0 [] .nil rfl (.cons rfl (.dat .int) .nil))⟩
    · have h4 := iteBT hS1 hb
      refine rl.done ?_
      refine RW.seq ?_
      refine RW.cond_t rfl ?_
      refine RW.skip ?_
      refine RW.seq ?_
      refine RW.blk ?_
      refine RW.sreg ?_
      refine rl.run 2 rfl ?_
      refine rl.done ?_
      refine RW.sreg ?_
      refine rl.run 3 rfl ?_
      obtain ⟨v3, e3, h5⟩ := bindS h4
      refine rl.op (x_idx rfl rfl e3) ?_
      refine rl.run 3 rfl ?_
      refine rl.done ?_
      refine RW.sreg ?_
      refine rl.run 1 rfl ?_
      refine rl.done ?_
      obtain ⟨y6, ey6, h7⟩ := bindS h5
      refine RW.cutq (σ := Int) (fun y5 => [(0, .int .u32 y5), (1, .str x1), (8, .int .i64 (x1.length : Int)), (9, .int .i64 s1.2)]) (fun y5 => []) (fun y => y6 = y) (fun _ _ _ _ g h => RW.gh g h) ?_ ?_
      · refine RW.blk ?_
        refine RW.iter (σ := Int × Int) ey6 (fun s4 => [(0, .int .u32 s4.1), (1, .str x1), (8, .int .i64 (x1.length : Int)), (9, .int .i64 s1.2), (18, .int .i64 s4.2)]) (fun s4 => []) (Gh.ren0 [] .nil rfl (.cons rfl (.dat .int) (.cons rfl (.dat .str) (.cons rfl (.dat .int) (.cons rfl (.dat .int) (.cons rfl (.dat .int) .nil)))))) (fun s4 B o hS6 hB6 hE6 => ?_)
        unfold S_impl_SumMore_2 at hS6
        refine RW.sreg ?_
        refine rl.gen rfl rfl fun b hb => ?_
        cases b
        · have h8 := iteBF hS6 hb
          refine rl.done ?_
          refine RW.seq ?_
          refine RW.cond_f rfl ?_
          refine RW.exit ?_
          refine blkA_eq ?_
          cases h8
          exact ⟨_, (hE6 _ rfl).symm, (Gh.ren0 [] .nil rfl (.cons rfl (.dat .int) (.cons rfl (.dat .str) (.cons rfl (.dat .int) (.cons rfl (.dat .int) .nil)))))⟩
        · have h9 := iteBT hS6 hb
          refine rl.done ?_
          refine RW.seq ?_
          refine RW.cond_t rfl ?_
          refine RW.skip ?_
          refine RW.seq ?_
          refine RW.blk ?_
          refine RW.sreg ?_
          refine rl.run 2 rfl ?_
          refine rl.gen rfl rfl fun b hb => ?_
          cases b
          · have h10 := iteBF h9 hb
            refine rl.run 1 rfl ?_
            refine rl.done ?_
            refine RW.sreg ?_
            refine rl.run 3 rfl ?_
            refine rl.done ?_
            refine RW.sreg ?_
            refine rl.run 1 rfl ?_
            refine rl.done ?_
            refine RW.cond_f rfl ?_
            refine RW.skip ?_
            refine RW.reg ?_
            refine rl.run 2 rfl ?_
            refine rl.done ?_
            cases h10
            exact hB6 _ rfl _ _ (Gh.ren0 [] .nil rfl (.cons rfl (.dat .int) (.cons rfl (.dat .str) (.cons rfl (.dat .int) (.cons rfl (.dat .int) (.cons rfl (.dat .int) .nil))))))
          · have h11 := iteBT h9 hb
            refine rl.run 1 rfl ?_
            refine rl.done ?_
            refine RW.sreg ?_
            refine rl.run 3 rfl ?_
            refine rl.done ?_
            refine RW.sreg ?_
            refine rl.run 1 rfl ?_
            refine rl.done ?_
            refine RW.cond_t rfl ?_
            refine RW.reg ?_
            refine rl.run 3 rfl ?_
            refine rl.done ?_
            refine RW.reg ?_
            refine rl.run 2 rfl ?_
            refine rl.done ?_
            cases h11
            exact hB6 _ rfl _ _ (Gh.ren0 [] .nil rfl (.cons rfl (.dat .int) (.cons rfl (.dat .str) (.cons rfl (.dat .int) (.cons rfl (.dat .int) (.cons rfl (.dat .int) .nil))))))
      · intro y5 hC
        subst hC
        refine RW.reg ?_
        refine rl.run 2 rfl ?_
        refine rl.done ?_
        cases h7
        exact hB1 _ rfl _ _ (Gh.ren0 [] .nil rfl (.cons rfl (.dat .int) (.cons rfl (.dat .str) (.cons rfl (.dat .int) (.cons rfl (.dat .int) .nil)))))
  · intro y2 hC
    subst hC
    refine RW.sreg ?_
    refine rl.run 2 rfl ?_
    refine rl.done ?_
    refine RW.ret ?_
    cases h2
    exact RRet.mk rfl .int (by decide)
theorem law_impl_SumOf {x0 : List UInt8} {r : Int} (hF : F_impl_SumOf x0 = some r) : PCalls Try.prog 74 [.str x0] (.int .u32 r) := by
  refine PCalls.of_r k_impl_SumOf rfl ?_
  unfold F_impl_SumOf at hF
  refine RW.sreg ?_
  refine rl.run 1 rfl ?_
  refine rl.done ?_
  refine RW.sreg ?_
  refine rl.run 1 rfl ?_
  obtain ⟨v1, e1, h1⟩ := bindS hF
  refine rl.call rfl rfl rfl (CallW.val (r' := .int .u32 v1) ok_impl_SumMore (law_impl_SumMore e1) (.cons .int (.cons .str .nil)) .refl ?_)
  refine rl.run 1 rfl ?_
  refine rl.done ?_
  refine RW.ret ?_
  cases h1
  exact RRet.mk rfl .int (by decide)
theorem law_impl_seal {x0 : List UInt8} {r : List UInt8} (hF : F_impl_seal x0 = some r) : PCalls Try.prog 47 [.str x0] (.str r) := by
  refine PCalls.of_r k_impl_seal rfl ?_
  unfold F_impl_seal at hF
  refine RW.sreg ?_
  refine rl.run 1 rfl ?_
  refine rl.done ?_
  refine RW.sreg ?_
  refine rl.run 1 rfl ?_
  obtain ⟨v1, e1, h1⟩ := bindS hF
  refine rl.call rfl rfl rfl (CallW.val (r' := .int .u32 v1) ok_impl_SumOf (law_impl_SumOf e1) (.cons .str .nil) .refl ?_)
  refine rl.run 1 rfl ?_
  refine rl.done ?_
  refine RW.sreg ?_
  refine rl.run 12 rfl ?_
  refine rl.op (x_cvb_sl (o := true) (l := [IntKind.u8.wrap (shrv .u32 v1 24), IntKind.u8.wrap (shrv .u32 v1 16), IntKind.u8.wrap (shrv .u32 v1 8), IntKind.u8.wrap v1]) rfl rfl) ?_
  refine rl.run 1 rfl ?_
  refine rl.done ?_
  refine RW.keep [2] (a' := [(2, .str ([IntKind.u8.wrap (shrv .u32 v1 24), IntKind.u8.wrap (shrv .u32 v1 16), IntKind.u8.wrap (shrv .u32 v1 8), IntKind.u8.wrap v1].map ofI))]) (H' := [some ⟨fl (encB true) [IntKind.u8.wrap (shrv .u32 v1 24), IntKind.u8.wrap (shrv .u32 v1 16), IntKind.u8.wrap (shrv .u32 v1 8), IntKind.u8.wrap v1], 1⟩]) rfl rfl ?_
  refine RW.ret ?_
  cases h1
  exact RRet.mk rfl .str (by decide)
theorem law_impl_Sealed {x0 : List UInt8} {r : (List UInt8) × Bool} (hF : F_impl_Sealed x0 = some r) : PCalls Try.prog 102 [.str x0] (.tup [.str r.1, .bool r.2]) := by
  refine PCalls.of_r k_impl_Sealed rfl ?_
  unfold F_impl_Sealed at hF
  refine RW.sreg ?_
  refine rl.run 2 rfl ?_
  refine rl.done ?_
  refine RW.seq ?_
  refine RW.sreg ?_
  refine rl.run 2 rfl ?_
  refine rl.gen rfl rfl fun b hb => ?_
  cases b
  · have h1 := iteBF hF hb
    refine rl.done ?_
    refine RW.cond_f rfl ?_
    refine RW.skip ?_
    refine RW.sreg ?_
    refine rl.run 2 rfl ?_
    obtain ⟨v1, e1, h2⟩ := bindS h1
    refine rl.call rfl rfl rfl (CallW.val (r' := .str v1) ok_impl_seal (law_impl_seal e1) (.cons .str .nil) .refl ?_)
    obtain ⟨v2, e2, h3⟩ := bindS h2
    refine rl.op (x_cat rfl rfl e2) ?_
    refine rl.run 2 rfl ?_
    refine rl.done ?_
    refine RW.ret ?_
    cases h3
    exact RRet.mk rfl (OutT.tup (.cons .str (.cons .bool .nil))) (by decide)
  · have h4 := iteBT hF hb
    refine rl.done ?_
    refine RW.cond_t rfl ?_
    refine RW.sreg ?_
    refine rl.run 2 rfl ?_
    refine rl.done ?_
    refine RW.ret ?_
    cases h4
    exact RRet.mk rfl (OutT.tup (.cons .str (.cons .bool .nil))) (by decide)
theorem law_impl_FrameText {x0 : TFrame} {r : (List UInt8) × Bool} (hF : F_impl_FrameText x0 = some r) : PCalls Try.prog 81 [.agg (enc_TFrame false x0)] (.tup [.str r.1, .bool r.2]) := by
  refine PCalls.of_r k_impl_FrameText rfl ?_
  unfold F_impl_FrameText at hF
  refine RW.sreg ?_
  refine rl.run 3 rfl ?_
  refine rl.done ?_
  refine RW.seq ?_
  refine RW.sreg ?_
  refine rl.run 1 rfl ?_
  obtain ⟨v1, e1, h1⟩ := bindS hF
  refine rl.call rfl rfl rfl (CallW.val (r' := .bool v1) ok_impl_FrameOk (law_impl_FrameOk e1) (.cons (DFL.agg (.cons .int (.cons .int (.cons .str .nil)))) .nil) .refl ?_)
  cases hb : v1
  · have h2 := iteBF h1 hb
    refine rl.run 1 rfl ?_
    refine rl.done ?_
    refine RW.cond_t rfl ?_
    refine RW.sreg ?_
    refine rl.run 2 rfl ?_
    refine rl.done ?_
    refine RW.ret ?_
    cases h2
    exact RRet.mk rfl (OutT.tup (.cons .str (.cons .bool .nil))) (by decide)
  · have h3 := iteBT h1 hb
    refine rl.run 1 rfl ?_
    refine rl.done ?_
    refine RW.cond_f rfl ?_
    refine RW.skip ?_
    refine RW.sdrw ?_
    refine rdraw.op rfl rfl ?_
    refine rdraw.op rfl rfl ?_
    obtain ⟨v2, e2, h4⟩ := bindS h3
    refine rdraw.call rfl rfl rfl (CallW.val (r' := .str v2) ok_impl_varText (law_impl_varText e2) (.cons .int .nil) .refl ⟨rfl, ?_⟩)
    refine rdraw.op rfl rfl ?_
    refine rdraw.op rfl rfl ?_
    obtain ⟨v3, e3, h5⟩ := bindS h4
    refine rdraw.call rfl rfl rfl (CallW.val (r' := .str v3) ok_impl_varText (law_impl_varText e3) (.cons .int .nil) .refl ⟨rfl, ?_⟩)
    obtain ⟨v4, e4, h6⟩ := bindS h5
    refine rdraw.op rfl (x_cat rfl rfl e4) ?_
    refine rdraw.op rfl rfl ?_
    refine rdraw.op rfl rfl ?_
    refine rdraw.op rfl rfl ?_
    obtain ⟨v5, e5, h7⟩ := bindS h6
    refine rdraw.call rfl rfl rfl (CallW.val (r' := .str v5) ok_impl_varText (law_impl_varText e5) (.cons .int .nil) .refl ⟨rfl, ?_⟩)
    obtain ⟨v6, e6, h8⟩ := bindS h7
    refine rdraw.op rfl (x_cat rfl rfl e6) ?_
    refine rdraw.op rfl rfl ?_
    refine rdraw.op rfl rfl ?_
    obtain ⟨v7, e7, h9⟩ := bindS h8
    refine rdraw.op rfl (x_cat rfl rfl e7) ?_
    obtain ⟨v8, e8, h10⟩ := bindS h9
    refine rdraw.call rfl rfl rfl (CallW.val (r' := .tup [.str v8.1, .bool v8.2]) ok_impl_Sealed (law_impl_Sealed e8) (.cons .str .nil) (FlL.tup (.cons .refl (.cons .refl .nil))) ⟨rfl, ?_⟩)
    refine rdraw.op rfl rfl ?_
    refine rdraw.op rfl rfl ?_
    refine rdraw.op rfl rfl ?_
    refine rdraw.op rfl rfl ?_
    refine rdraw.done ?_
    refine RW.keep [2, 3] (a' := [(2, .str v8.1), (3, .bool v8.2)]) (H' := [some ⟨[.int .i64 x0.Gen, .int .i64 x0.Seq, .str x0.Body], 0⟩]) rfl rfl ?_
    refine RW.ret ?_
    cases h10
    exact RRet.mk rfl (OutT.tup (.cons .str (.cons .bool .nil))) (by decide)
theorem law_impl_FrameSize {x0 : TFrame} {r : Int} (hF : F_impl_FrameSize x0 = some r) : PCalls Try.prog 56 [.agg (enc_TFrame false x0)] (.int .i64 r) := by
  refine PCalls.of_r k_impl_FrameSize rfl ?_
  unfold F_impl_FrameSize at hF
  refine RW.sreg ?_
  refine rl.run 2 rfl ?_
  refine rl.done ?_
  refine RW.sreg ?_
  refine rl.run 1 rfl ?_
  obtain ⟨v1, e1, h1⟩ := bindS hF
  refine rl.call rfl rfl rfl (CallW.val (r' := .tup [.str v1.1, .bool v1.2]) ok_impl_FrameText (law_impl_FrameText e1) (.cons (DFL.agg (.cons .int (.cons .int (.cons .str .nil)))) .nil) (FlL.tup (.cons .refl (.cons .refl .nil))) ?_)
  refine rl.run 5 rfl ?_
  refine rl.done ?_
  refine RW.sreg ?_
  refine rl.run 3 rfl ?_
  refine rl.done ?_
  refine RW.keep [2] (a' := [(2, .int .i64 (v1.1.length : Int))]) (H' := [some ⟨[.int .i64 x0.Gen, .int .i64 x0.Seq, .str x0.Body], 0⟩]) rfl rfl ?_
  refine RW.ret ?_
  cases h1
  exact RRet.mk rfl .int (by decide)
theorem law_impl_RecSize {x0 : TRec} {r : Int} (hF : F_impl_RecSize x0 = some r) : PCalls Try.prog 29 [.agg (enc_TRec false x0)] (.int .i64 r) := by
  refine PCalls.of_r k_impl_RecSize rfl ?_
  unfold F_impl_RecSize at hF
  refine RW.sreg ?_
  refine rl.run 2 rfl ?_
  refine rl.done ?_
  refine RW.sreg ?_
  refine rl.run 2 rfl ?_
  obtain ⟨v1, e1, h1⟩ := bindS hF
  refine rl.call rfl rfl rfl (CallW.val (r' := .tup [.agg (enc_TFrame false v1.1), .bool v1.2]) ok_impl_ItemFrame (law_impl_ItemFrame e1) (.cons (DFL.agg (.cons .int (.cons .int (.cons .int (.cons .int (.cons .int (.cons .int (.cons .str (.cons .str (.cons .str .nil)))))))))) (.cons .int .nil)) (FlL.tup (.cons .refl (.cons .refl .nil))) ?_)
  refine rl.run 6 rfl ?_
  refine rl.done ?_
  refine RW.seq ?_
  refine RW.sreg ?_
  refine rl.run 2 rfl ?_
  refine rl.done ?_
  refine RW.keep [3, 12] (a' := [(3, .ptr 1 0), (12, .bool (!v1.2))]) (H' := [some ⟨[.int .i64 x0.Kind, .int .i64 x0.Valid, .int .i64 x0.Uid, .int .i64 x0.Next, .int .i64 x0.Flags, .str x0.User, .str x0.Name, .str x0.Text], 0⟩, some ⟨[.int .i64 v1.1.Gen, .int .i64 v1.1.Seq, .str v1.1.Body], 0⟩]) rfl rfl ?_
  cases hb : (!v1.2)
  · have h2 := iteBF h1 hb
    refine RW.cond_f rfl ?_
    refine RW.skip ?_
    refine RW.sreg ?_
    refine rl.run 1 rfl ?_
    obtain ⟨v2, e2, h3⟩ := bindS h2
    refine rl.call rfl rfl rfl (CallW.val (r' := .int .i64 v2) ok_impl_FrameSize (law_impl_FrameSize e2) (.cons (DFL.agg (.cons .int (.cons .int (.cons .str .nil)))) .nil) .refl ?_)
    refine rl.run 1 rfl ?_
    refine rl.done ?_
    refine RW.ret ?_
    cases h3
    exact RRet.mk rfl .int (by decide)
  · have h4 := iteBT h1 hb
    refine RW.cond_t rfl ?_
    refine RW.sreg ?_
    refine rl.run 1 rfl ?_
    refine rl.done ?_
    refine RW.ret ?_
    cases h4
    exact RRet.mk rfl .int (by decide)
theorem law_laws_FnExactRecSize {x0 : TRec} {r : Bool} (hF : F_laws_FnExactRecSize x0 = some r) : PCalls Try.prog 6 [.agg (enc_TRec false x0)] (.bool r) := by
  refine PCalls.of_r k_laws_FnExactRecSize rfl ?_
  unfold F_laws_FnExactRecSize at hF
  refine RW.sreg ?_
  refine rl.run 2 rfl ?_
  refine rl.done ?_
  refine RW.sreg ?_
  refine rl.run 1 rfl ?_
  refine rl.done ?_
  refine RW.sreg ?_
  refine rl.run 2 rfl ?_
  obtain ⟨v1, e1, h1⟩ := bindS hF
  refine rl.call rfl rfl rfl (CallW.val (r' := .int .i64 v1) ok_laws_szRec (law_laws_szRec e1) (.cons (DFL.agg (.cons .int (.cons .int (.cons .int (.cons .int (.cons .int (.cons .str (.cons .str (.cons .str .nil))))))))) (.cons .int .nil)) .refl ?_)
  refine rl.run 1 rfl ?_
  refine rl.done ?_
  refine RW.seq ?_
  refine RW.sreg ?_
  refine rl.run 1 rfl ?_
  refine rl.gen rfl rfl fun b hb => ?_
  cases b
  · have h2 := iteBF h1 hb
    refine rl.done ?_
    refine RW.cond_f rfl ?_
    refine RW.skip ?_
    refine RW.sreg ?_
    refine rl.run 1 rfl ?_
    obtain ⟨v2, e2, h3⟩ := bindS h2
    refine rl.call rfl rfl rfl (CallW.val (r' := .agg (enc_TRec false v2)) ok_laws_toRec (law_laws_toRec e2) (.cons (DFL.agg (.cons .int (.cons .int (.cons .int (.cons .int (.cons .int (.cons .str (.cons .str (.cons .str .nil))))))))) .nil) .refl ?_)
    obtain ⟨v3, e3, h4⟩ := bindS h3
    refine rl.call rfl rfl rfl (CallW.val (r' := .int .i64 v3) ok_spec_RecSize (law_spec_RecSize e3) (.cons (.dat (.agg (ek_TRec.dat false _))) .nil) .refl ?_)
    refine rl.run 1 rfl ?_
    refine rl.done ?_
    refine RW.keep [1, 4] (a' := [(1, .ptr 0 0), (4, .int .i64 v3)]) (H' := [some ⟨[.int .i64 x0.Kind, .int .i64 x0.Valid, .int .i64 x0.Uid, .int .i64 x0.Next, .int .i64 x0.Flags, .str x0.User, .str x0.Name, .str x0.Text], 0⟩]) rfl rfl ?_
    refine RW.sreg ?_
    refine rl.run 1 rfl ?_
    obtain ⟨v4, e4, h5⟩ := bindS h4
    refine rl.call rfl rfl rfl (CallW.val (r' := .agg (enc_TRec false v4)) ok_laws_toRec (law_laws_toRec e4) (.cons (DFL.agg (.cons .int (.cons .int (.cons .int (.cons .int (.cons .int (.cons .str (.cons .str (.cons .str .nil))))))))) .nil) .refl ?_)
    obtain ⟨v5, e5, h6⟩ := bindS h5
    refine rl.call rfl rfl rfl (CallW.val (r' := .int .i64 v5) ok_impl_RecSize (law_impl_RecSize e5) (.cons (.dat (.agg (ek_TRec.dat false _))) .nil) .refl ?_)
    refine rl.run 1 rfl ?_
    refine rl.done ?_
    refine RW.seq ?_
    refine RW.sreg ?_
    refine rl.run 2 rfl ?_
    refine rl.gen rfl rfl fun b hb => ?_
    cases b
    · have h7 := iteBF h6 hb
      refine rl.done ?_
      refine RW.cond_f rfl ?_
      refine RW.skip ?_
      refine RW.sreg ?_
      refine rl.run 1 rfl ?_
      refine rl.done ?_
      refine RW.ret ?_
      cases h7
      exact RRet.mk rfl .bool (by decide)
    · have h8 := iteBT h6 hb
      refine rl.done ?_
      refine RW.cond_t rfl ?_
      refine RW.sreg ?_
      refine rl.run 1 rfl ?_
      refine rl.done ?_
      refine RW.ret ?_
      cases h8
      exact RRet.mk rfl .bool (by decide)
  · have h9 := iteBT h1 hb
    refine rl.done ?_
    refine RW.cond_t rfl ?_
    refine RW.sreg ?_
    refine rl.run 1 rfl ?_
    refine rl.done ?_
    refine RW.ret ?_
    cases h9
    exact RRet.mk rfl .bool (by decide)
end Go.Proofs.Ytpecafogemipmaa.V
