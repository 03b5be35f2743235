/- What a call comes to. -/
import Derived.Test.YtldndhdohlfpgaaXD0
namespace Go.Proofs.Ytldndhdohlfpgaa.V
open Go Go.Proofs Go.RowKit
set_option maxRecDepth 100000
theorem law_impl_numbers_boxState_1 {x0 : List TItem} {x1ac0 : Int} {r : List Int} (hF : F_impl_numbers_boxState_1 x0 x1ac0 = some r) : PCalls Try.prog 131 [L_TItem x0, .fn 157 [.el [.j x1ac0] 0]] (.lst true 1 (fl (encI true) r) r.length) := by
 refine PCalls.of_r k_impl_numbers rfl ?_
 unfold F_impl_numbers_boxState_1 at hF
 refine RW.sreg (rl.run 1 rfl (rl.done (RW.sreg (rl.run 2 rfl (rl.done (RW.seq (RW.sreg (rl.run 3 rfl (rl.done ?_)))))))))
 refine RW.gh (Gh.nil_t 5 1 rfl) ?_
 obtain ⟨y6, ey6, h2⟩ := bindS hF
 refine RW.cutq (σ := (List Int)) (fun y2 => [(5, .sl 0 0 y2.length)]) (fun y2 => [some ⟨fl (encI true) y2, 1⟩]) (fun y => y6 = y) (fun _ _ _ _ g h => RW.gh g h) ?_ ?_
 ·refine RW.blk ?_
  refine RW.iter (σ := Int × (List Int)) ey6 (fun s1 => [(1, .fn 157 [.el [.j x1ac0] 0]), (5, .sl 0 0 s1.2.length), (11, L_TItem x0), (12, .j (x0.length : Int)), (13, .j s1.1)]) (fun s1 => [some ⟨fl (encI true) s1.2, 1⟩]) (Gh.ren0 [0] (.same rfl (ekI.fref _ _) .nil) rfl (.cons rfl (RnL.fn (.cons (.dat (.el (fac .int fan))) .nil)) (.cons rfl (.slq rfl rfl) (.cons rfl (.dat (ek_TItem.rlst)) (.cons rfl (.dat .int) (.cons rfl (.dat .int) .nil)))))) (fun s1 B o hS1 hB1 hE1 => ?_)
  unfold S_impl_numbers_boxState_1_1 at hS1
  refine RW.sreg ?_
  refine rl.gen rfl rfl fun b hb => ?_
  cases b
  ·have h3 := iteBF hS1 hb
   refine rl.done (RW.seq (RW.cond_f rfl (RW.exit (blkA_eq ?_))))
   cases h3
   exact ⟨_, (hE1 _ rfl).symm, (Gh.ren0 [0] (.same rfl (ekI.fref _ _) .nil) rfl (.cons rfl (.slq rfl rfl) .nil))⟩
  ·have h4 := iteBT hS1 hb
   refine rl.done (RW.seq (RW.cond_t rfl (RW.skip (RW.seq (RW.blk (RW.sreg ?_))))))
   obtain ⟨v3, e3, h5⟩ := bindS h4
   refine rl.op (x_ia_lst (enc := enc_TItem) (o := false) rfl rfl rfl e3) ?_
   refine rl.op (x_ld_ela (off' := 0) (vs := (enc_TItem false v3)) ek_TItem rfl e3 rfl rfl rfl) ?_
   refine rl.run 2 rfl (rl.done (RW.sreg (rl.run 3 rfl ?_)))
   obtain ⟨v4, e4, h6⟩ := bindS h5
   refine rl.call rfl rfl rfl (CallW.valS (r' := .tup [.j v4.1, .bool v4.2]) ok_impl_boxState_1 (law_impl_boxState_1_w e4) (.cons (.of (DFL.agg (.cons .int (.cons .int (.cons .int (.cons .int (.cons .int (.cons .str (.cons .str (.cons .str .nil)))))))))) (.cons (DS.el (fac .int fan)) .nil)) (FlL.tup (.cons .refl (.cons .refl .nil))) ?_)
   refine rl.run 5 rfl (rl.done ?_)
   refine RW.kp [1, 5, 8, 9, 11, 12, 13] [(1, .fn 157 [.el [.j x1ac0] 0]), (5, .sl 0 0 s1.2.length), (8, .j v4.1), (9, .bool v4.2), (11, L_TItem x0), (12, .j (x0.length : Int)), (13, .j s1.1)] [some ⟨fl (encI true) s1.2, 1⟩, some ⟨[.j v3.Seq, .j v3.Rec.Kind, .j v3.Rec.Valid, .j v3.Rec.Uid, .j v3.Rec.Next, .j v3.Rec.Flags, .str v3.Rec.User, .str v3.Rec.Name, .str v3.Rec.Text], 0⟩] rfl rfl ?_
   refine RW.sreg (rl.run 1 rfl (rl.done ?_))
   cases hb : v4.2
   ·have h7 := iteBF h6 hb
    refine RW.cond_f rfl (RW.skip (RW.reg (rl.run 2 rfl (rl.done ?_))))
    cases h7
    exact hB1 _ rfl _ _ (Gh.ren0 [0] (.same rfl (ekI.fref _ _) .nil) rfl (.cons rfl (RnL.fn (.cons (.dat (.el (fac .int fan))) .nil)) (.cons rfl (.slq rfl rfl) (.cons rfl (.dat (ek_TItem.rlst)) (.cons rfl (.dat .int) (.cons rfl (.dat .int) .nil))))))
   ·have h8 := iteBT h6 hb
    refine RW.cond_t rfl (RW.reg (rl.run 3 rfl ?_))
    obtain ⟨v5, e5, h9⟩ := bindS h8
    refine rl.op (x_app rfl rfl (rapp_sl (l := s1.2) (m := [v4.1]) (o := true) ekI rfl rfl (acont_slq (m := [v4.1]) (o := true) fkI rfl rfl) rfl (fkI.fst _ _) e5)) ?_
    refine rl.run 1 rfl (rl.done (RW.reg (rl.run 2 rfl (rl.done ?_))))
    cases h9
    exact hB1 _ rfl _ _ (Gh.ren0 [3] (.same rfl (ekI.fref _ _) .nil) rfl (.cons rfl (RnL.fn (.cons (.dat (.el (fac .int fan))) .nil)) (.cons rfl (.slq rfl rfl) (.cons rfl (.dat (ek_TItem.rlst)) (.cons rfl (.dat .int) (.cons rfl (.dat .int) .nil))))))
 ·intro y2 hC
  subst hC
  refine RW.sreg (rl.run 1 rfl ?_)
  obtain ⟨v7, e7, h10⟩ := bindS h2
  refine rl.call rfl rfl rfl (CallW.sortI (H' := [some ⟨fl (encI true) v7, 1⟩]) lay_slices_Sort_int e7 rfl rfl rfl rfl ?_)
  refine rl.done (RW.sreg (rl.run 1 rfl ?_))
  obtain ⟨v8, e8, h11⟩ := bindS h10
  refine rl.call rfl rfl rfl (CallW.compI (H' := [some ⟨fl (encI true) v8, 1⟩]) lay_slices_Compact_int e8 rfl ((sort?_length e7)).symm rfl rfl ?_)
  refine rl.run 1 rfl (rl.done (RW.ret ?_))
  cases h11
  exact RRet.mk rfl (OutR.ownq ekI rfl rfl) (by first | decide | simp)
set_option maxHeartbeats 2000000 in
theorem law_impl_boxState {x0 : List TItem} {x1 : TItem} {r : TBox} (hF : F_impl_boxState x0 x1 = some r) : PCalls Try.prog 133 [L_TItem x0, .agg (enc_TItem false x1)] (.agg (enc_TBox true r)) := by
 refine PCalls.of_r k_impl_boxState rfl ?_
 unfold F_impl_boxState at hF
 refine RW.sreg (rl.run 2 rfl (rl.done (RW.sreg (rl.run 5 rfl (rl.done (RW.sreg (rl.run 13 rfl (rl.done ?_))))))))
 refine RW.kp [0, 4, 5, 6] [(0, L_TItem x0), (4, .ptr 1 0), (5, .ptr 2 0), (6, .ptr 3 0)] [some ⟨[.j x1.Seq, .j x1.Rec.Kind, .j x1.Rec.Valid, .j x1.Rec.Uid, .j x1.Rec.Next, .j x1.Rec.Flags, .str x1.Rec.User, .str x1.Rec.Name, .str x1.Rec.Text], 0⟩, some ⟨[.j 0, .str [], .str [], .j 0, .nils], 0⟩, some ⟨[.j x1.Rec.Valid], 0⟩, some ⟨[.j x1.Rec.Valid, .str x1.Rec.User, .str x1.Rec.Name, .j x1.Rec.Next, .nils], 0⟩] rfl rfl ?_
 refine RW.sreg (rl.run 2 rfl ?_)
 obtain ⟨v1, e1, h1⟩ := bindS hF
 refine rl.call rfl rfl rfl (CallW.valS (r' := L_I v1) ok_impl_numbers (law_impl_numbers_boxState_1 e1) (.cons (.of (.lst ek_TItem)) (.cons (DS.fn (.cons (DS.ptr rfl (fac .int fan)) .nil)) .nil)) (ekI.fflag _).lst ?_)
 refine rl.run 1 rfl (rl.done (RW.seq (RW.sreg (rl.run 3 rfl (rl.done ?_)))))
 refine RW.gh (Gh.nil_c 3 4 3 rfl rfl) ?_
 obtain ⟨y9, ey9, h3⟩ := bindS h1
 refine RW.cutq (σ := Int × (List TMail)) (fun y3 => [(4, .ptr 0 0), (6, .ptr 1 0)]) (fun y3 => [some ⟨[.j 0, .str [], .str [], .j 0, .nils], 0⟩, some ⟨[.j x1.Rec.Valid, .str x1.Rec.User, .str x1.Rec.Name, .j y3.1, .sl 2 0 y3.2.length], 0⟩, some ⟨fl (enc_TMail true) y3.2, 3⟩]) (fun y => y9 = y) (fun _ _ _ _ g h => RW.gh g h) ?_ ?_
 ·refine RW.blk ?_
  refine RW.iter (σ := Int × Int × (List TMail)) ey9 (fun s2 => [(0, L_TItem x0), (4, .ptr 0 0), (5, .ptr 1 0), (6, .ptr 2 0), (32, L_I v1), (33, .j (v1.length : Int)), (34, .j s2.1)]) (fun s2 => [some ⟨[.j 0, .str [], .str [], .j 0, .nils], 0⟩, some ⟨[.j x1.Rec.Valid], 0⟩, some ⟨[.j x1.Rec.Valid, .str x1.Rec.User, .str x1.Rec.Name, .j s2.2.1, .sl 3 0 s2.2.2.length], 0⟩, some ⟨fl (enc_TMail true) s2.2.2, 3⟩]) (Gh.ren0 [1, 2, 3, 4] (.cells rfl rfl (.keep .int (.keep .str (.keep .str (.keep .int (.keep .nils .nil))))) (.cells rfl rfl (.keep .int .nil) (.cells rfl rfl (.keep .int (.keep .str (.keep .str (.keep .int (.slq rfl rfl .nil))))) (.same rfl (ek_TMail.fref _ _) .nil)))) rfl (.cons rfl (.dat (ek_TItem.rlst)) (.cons rfl (.ptr rfl) (.cons rfl (.ptr rfl) (.cons rfl (.ptr rfl) (.cons rfl (.dat (ekI.rlst)) (.cons rfl (.dat .int) (.cons rfl (.dat .int) .nil)))))))) (fun s2 B o hS2 hB2 hE2 => ?_)
  unfold S_impl_boxState_1 at hS2
  refine RW.sreg ?_
  refine rl.gen rfl rfl fun b hb => ?_
  cases b
  ·have h4 := iteBF hS2 hb
   refine rl.done (RW.seq (RW.cond_f rfl (RW.exit (blkA_eq ?_))))
   cases h4
   exact ⟨_, (hE2 _ rfl).symm, (Gh.ren0 [0, 2, 3] (.cells rfl rfl (.keep .int (.keep .str (.keep .str (.keep .int (.keep .nils .nil))))) (.cells rfl rfl (.keep .int (.keep .str (.keep .str (.keep .int (.slq rfl rfl .nil))))) (.same rfl (ek_TMail.fref _ _) .nil))) rfl (.cons rfl (.ptr rfl) (.cons rfl (.ptr rfl) .nil)))⟩
  ·have h5 := iteBT hS2 hb
   refine rl.done (RW.seq (RW.cond_t rfl (RW.skip (RW.seq (RW.blk (RW.sreg ?_))))))
   obtain ⟨v4, e4, h6⟩ := bindS h5
   refine rl.op (x_ia_lst (enc := encI) (o := false) rfl rfl rfl e4) ?_
   refine rl.op (x_ld_el (off' := 0) ekI rfl e4 rfl rfl rfl) ?_
   refine rl.run 1 rfl (rl.done (RW.sreg (rl.run 7 rfl (rl.done (RW.sreg (rl.run 3 rfl ?_))))))
   obtain ⟨v5, e5, h7⟩ := bindS h6
   refine rl.call rfl rfl rfl (CallW.val (r' := .tup [.agg (enc_TItem false v5.1), .bool v5.2]) ok_impl_mailThere (law_impl_mailThere e5) (.cons (.lst ek_TItem) (.cons .int (.cons .int .nil))) (FlL.tup (.cons .refl (.cons .refl .nil))) ?_)
   refine rl.run 6 rfl (rl.done ?_)
   refine RW.kp [0, 4, 5, 6, 9, 10, 11, 32, 33, 34] [(0, L_TItem x0), (4, .ptr 0 0), (5, .ptr 1 0), (6, .ptr 2 0), (9, .j v4), (10, .ptr 4 0), (11, .bool v5.2), (32, L_I v1), (33, .j (v1.length : Int)), (34, .j s2.1)] [some ⟨[.j 0, .str [], .str [], .j 0, .nils], 0⟩, some ⟨[.j x1.Rec.Valid], 0⟩, some ⟨[.j x1.Rec.Valid, .str x1.Rec.User, .str x1.Rec.Name, .j (if w64 (v4 + 1) > s2.2.1 then w64 (v4 + 1) else s2.2.1), .sl 3 0 s2.2.2.length], 0⟩, some ⟨fl (enc_TMail true) s2.2.2, 3⟩, some ⟨[.j v5.1.Seq, .j v5.1.Rec.Kind, .j v5.1.Rec.Valid, .j v5.1.Rec.Uid, .j v5.1.Rec.Next, .j v5.1.Rec.Flags, .str v5.1.Rec.User, .str v5.1.Rec.Name, .str v5.1.Rec.Text], 0⟩] rfl rfl ?_
   refine RW.seq (RW.sreg (rl.run 2 rfl (rl.done ?_)))
   cases hb : (!v5.2)
   ·have h8 := iteBF h7 hb
    refine RW.cond_f rfl (RW.skip (RW.sreg (rl.run 10 rfl (rl.done ?_))))
    refine RW.kp [0, 4, 5, 6, 9, 12, 32, 33, 34] [(0, L_TItem x0), (4, .ptr 0 0), (5, .ptr 1 0), (6, .ptr 2 0), (9, .j v4), (12, .ptr 5 0), (32, L_I v1), (33, .j (v1.length : Int)), (34, .j s2.1)] [some ⟨[.j 0, .str [], .str [], .j 0, .nils], 0⟩, some ⟨[.j x1.Rec.Valid], 0⟩, some ⟨[.j x1.Rec.Valid, .str x1.Rec.User, .str x1.Rec.Name, .j (if w64 (v4 + 1) > s2.2.1 then w64 (v4 + 1) else s2.2.1), .sl 3 0 s2.2.2.length], 0⟩, some ⟨fl (enc_TMail true) s2.2.2, 3⟩, some ⟨[.j v5.1.Seq, .j v5.1.Rec.Kind, .j v5.1.Rec.Valid, .j v5.1.Rec.Uid, .j v5.1.Rec.Next, .j v5.1.Rec.Flags, .str v5.1.Rec.User, .str v5.1.Rec.Name, .str v5.1.Rec.Text], 0⟩, some ⟨[.j v4, .j v5.1.Rec.Flags, .str v5.1.Rec.Text], 0⟩] rfl rfl ?_
    refine RW.seq (RW.sreg (rl.run 3 rfl ?_))
    obtain ⟨v6, e6, h9⟩ := bindS h8
    refine rl.call rfl rfl rfl (CallW.val (r' := .tup [.agg (enc_TItem false v6.1), .bool v6.2]) ok_impl_mailItem (law_impl_mailItem e6) (.cons (.lst ek_TItem) (.cons .int (.cons .int (.cons .int .nil)))) (FlL.tup (.cons .refl (.cons .refl .nil))) ?_)
    refine rl.run 6 rfl (rl.done (RW.sreg (rl.run 1 rfl (rl.done ?_))))
    obtain ⟨y7, ey7, h10⟩ := bindS h9
    refine RW.cutq (σ := Int) (fun y7 => [(0, L_TItem x0), (4, .ptr 0 0), (5, .ptr 1 0), (6, .ptr 2 0), (12, .ptr 3 0), (32, L_I v1), (33, .j (v1.length : Int)), (34, .j s2.1)]) (fun y7 => [some ⟨[.j 0, .str [], .str [], .j 0, .nils], 0⟩, some ⟨[.j x1.Rec.Valid], 0⟩, some ⟨[.j x1.Rec.Valid, .str x1.Rec.User, .str x1.Rec.Name, .j (if w64 (v4 + 1) > s2.2.1 then w64 (v4 + 1) else s2.2.1), .sl 4 0 s2.2.2.length], 0⟩, some ⟨[.j v4, .j y7, .str v5.1.Rec.Text], 0⟩, some ⟨fl (enc_TMail true) s2.2.2, 3⟩]) (fun y => y7 = y) (fun _ _ _ _ g h => RW.gh g h) ?_ ?_
    ·cases hb : v6.2
     ·have h11 := iteBF ey7 hb
      refine RW.cond_f rfl (RW.skip ?_)
      cases h11
      exact ⟨_, rfl, (Gh.ren0 [0, 1, 2, 5, 3] (.cells rfl rfl (.keep .int (.keep .str (.keep .str (.keep .int (.keep .nils .nil))))) (.cells rfl rfl (.keep .int .nil) (.cells rfl rfl (.keep .int (.keep .str (.keep .str (.keep .int (.slq rfl rfl .nil))))) (.cells rfl rfl (.keep .int (.keep .int (.keep .str .nil))) (.same rfl (ek_TMail.fref _ _) .nil))))) rfl (.cons rfl (.dat (ek_TItem.rlst)) (.cons rfl (.ptr rfl) (.cons rfl (.ptr rfl) (.cons rfl (.ptr rfl) (.cons rfl (.ptr rfl) (.cons rfl (.dat (ekI.rlst)) (.cons rfl (.dat .int) (.cons rfl (.dat .int) .nil)))))))))⟩
     ·have h12 := iteBT ey7 hb
      refine RW.cond_t rfl (RW.reg (rl.run 5 rfl (rl.done ?_)))
      cases h12
      exact ⟨_, rfl, (Gh.ren0 [0, 1, 2, 5, 3] (.cells rfl rfl (.keep .int (.keep .str (.keep .str (.keep .int (.keep .nils .nil))))) (.cells rfl rfl (.keep .int .nil) (.cells rfl rfl (.keep .int (.keep .str (.keep .str (.keep .int (.slq rfl rfl .nil))))) (.cells rfl rfl (.keep .int (.keep .int (.keep .str .nil))) (.same rfl (ek_TMail.fref _ _) .nil))))) rfl (.cons rfl (.dat (ek_TItem.rlst)) (.cons rfl (.ptr rfl) (.cons rfl (.ptr rfl) (.cons rfl (.ptr rfl) (.cons rfl (.ptr rfl) (.cons rfl (.dat (ekI.rlst)) (.cons rfl (.dat .int) (.cons rfl (.dat .int) .nil)))))))))⟩
    ·intro y hC
     subst hC
     refine RW.reg (rl.run 4 rfl ?_)
     obtain ⟨v8, e8, h13⟩ := bindS h10
     refine rl.op (x_app rfl rfl (rapp_sl (l := s2.2.2) (m := [({ Uid := v4, Flags := y7, Text := v5.1.Rec.Text } : TMail)]) (o := true) ek_TMail rfl rfl (acont_slq (m := [({ Uid := v4, Flags := y7, Text := v5.1.Rec.Text } : TMail)]) (o := true) fk_TMail rfl rfl) rfl (fk_TMail.fst _ _) e8)) ?_
     refine rl.run 2 rfl (rl.done (RW.reg (rl.run 2 rfl (rl.done ?_))))
     cases h13
     exact hB2 _ rfl _ _ (Gh.ren0 [0, 1, 2, 6] (.cells rfl rfl (.keep .int (.keep .str (.keep .str (.keep .int (.keep .nils .nil))))) (.cells rfl rfl (.keep .int .nil) (.cells rfl rfl (.keep .int (.keep .str (.keep .str (.keep .int (.slq rfl rfl .nil))))) (.same rfl (ek_TMail.fref _ _) .nil)))) rfl (.cons rfl (.dat (ek_TItem.rlst)) (.cons rfl (.ptr rfl) (.cons rfl (.ptr rfl) (.cons rfl (.ptr rfl) (.cons rfl (.dat (ekI.rlst)) (.cons rfl (.dat .int) (.cons rfl (.dat .int) .nil))))))))
   ·have h14 := iteBT h7 hb
    refine RW.cond_t rfl (RW.exit (blkA_eq (RW.reg (rl.run 2 rfl (rl.done ?_)))))
    cases h14
    exact hB2 _ rfl _ _ (Gh.ren0 [0, 1, 2, 3] (.cells rfl rfl (.keep .int (.keep .str (.keep .str (.keep .int (.keep .nils .nil))))) (.cells rfl rfl (.keep .int .nil) (.cells rfl rfl (.keep .int (.keep .str (.keep .str (.keep .int (.slq rfl rfl .nil))))) (.same rfl (ek_TMail.fref _ _) .nil)))) rfl (.cons rfl (.dat (ek_TItem.rlst)) (.cons rfl (.ptr rfl) (.cons rfl (.ptr rfl) (.cons rfl (.ptr rfl) (.cons rfl (.dat (ekI.rlst)) (.cons rfl (.dat .int) (.cons rfl (.dat .int) .nil))))))))
 ·intro y3 hC
  subst hC
  refine RW.sreg (rl.run 2 rfl (rl.done (RW.ret ?_)))
  cases h3
  exact RRet.mk rfl (OutL.agg (.cons .int rfl (.cons .str rfl (.cons .str rfl (.cons .int rfl (.cons (OutR.ownq ek_TMail rfl rfl) rfl .nil)))))) (by first | decide | simp)
theorem law_impl_StateOf {x0 : List TItem} {r : TState} (hF : F_impl_StateOf x0 = some r) : PCalls Try.prog 91 [L_TItem x0] (.agg (enc_TState true r)) := by
 refine PCalls.of_r k_impl_StateOf rfl ?_
 unfold F_impl_StateOf at hF
 refine RW.sreg (rl.run 1 rfl (rl.done (RW.seq (RW.sreg (rl.run 1 rfl ?_)))))
 obtain ⟨v1, e1, h1⟩ := bindS hF
 refine rl.call rfl rfl rfl (CallW.val (r' := .bool v1) ok_impl_ItemsOk (law_impl_ItemsOk e1) (.cons (.lst ek_TItem) .nil) .refl ?_)
 cases hb : v1
 ·have h2 := iteBF h1 hb
  refine rl.run 1 rfl (rl.done (RW.cond_t rfl (RW.sreg (rl.run 2 rfl (rl.done (RW.ret ?_))))))
  cases h2
  exact RRet.mk rfl (OutL.agg (.cons (OutR.nil (enc := enc_TBox)) rfl .nil)) (by first | decide | simp)
 ·have h3 := iteBT h1 hb
  refine rl.run 1 rfl (rl.done (RW.cond_f rfl (RW.skip (RW.sreg (rl.run 3 rfl (rl.done (RW.seq (RW.sreg (rl.run 1 rfl ?_)))))))))
  obtain ⟨v2, e2, h4⟩ := bindS h3
  refine rl.call rfl rfl rfl (CallW.val (r' := L_I v2) ok_impl_numbers (law_impl_numbers_StateOf_1 e2) (.cons (.lst ek_TItem) (.cons .fn .nil)) (ekI.fflag _).lst ?_)
  refine rl.run 2 rfl (rl.done ?_)
  refine RW.gh (Gh.nil_c 1 0 5 rfl rfl) ?_
  obtain ⟨y9, ey9, h6⟩ := bindS h4
  refine RW.cutq (σ := (List TBox)) (fun y4 => [(2, .ptr 0 0), (3, .ptr 1 0)]) (fun y4 => [some ⟨[.nils], 0⟩, some ⟨[.sl 2 0 y4.length], 0⟩, some ⟨fl (enc_TBox true) y4, 5⟩]) (fun y => y9 = y) (fun _ _ _ _ g h => RW.gh g h) ?_ ?_
  ·refine RW.blk ?_
   refine RW.iter (σ := Int × (List TBox)) ey9 (fun s3 => [(0, L_TItem x0), (2, .ptr 0 0), (3, .ptr 1 0), (14, L_I v2), (15, .j (v2.length : Int)), (16, .j s3.1)]) (fun s3 => [some ⟨[.nils], 0⟩, some ⟨[.sl 2 0 s3.2.length], 0⟩, some ⟨fl (enc_TBox true) s3.2, 5⟩]) (Gh.ren0 [0, 1, 2] (.cells rfl rfl (.keep .nils .nil) (.cells rfl rfl (.slq rfl rfl .nil) (.same rfl (ek_TBox.fref _ _) .nil))) rfl (.cons rfl (.dat (ek_TItem.rlst)) (.cons rfl (.ptr rfl) (.cons rfl (.ptr rfl) (.cons rfl (.dat (ekI.rlst)) (.cons rfl (.dat .int) (.cons rfl (.dat .int) .nil))))))) (fun s3 B o hS5 hB5 hE5 => ?_)
   unfold S_impl_StateOf_1 at hS5
   refine RW.sreg ?_
   refine rl.gen rfl rfl fun b hb => ?_
   cases b
   ·have h7 := iteBF hS5 hb
    refine rl.done (RW.seq (RW.cond_f rfl (RW.exit (blkA_eq ?_))))
    cases h7
    exact ⟨_, (hE5 _ rfl).symm, (Gh.ren0 [0, 1, 2] (.cells rfl rfl (.keep .nils .nil) (.cells rfl rfl (.slq rfl rfl .nil) (.same rfl (ek_TBox.fref _ _) .nil))) rfl (.cons rfl (.ptr rfl) (.cons rfl (.ptr rfl) .nil)))⟩
   ·have h8 := iteBT hS5 hb
    refine rl.done (RW.seq (RW.cond_t rfl (RW.skip (RW.seq (RW.blk (RW.sreg ?_))))))
    obtain ⟨v5, e5, h9⟩ := bindS h8
    refine rl.op (x_ia_lst (enc := encI) (o := false) rfl rfl rfl e5) ?_
    refine rl.op (x_ld_el (off' := 0) ekI rfl e5 rfl rfl rfl) ?_
    refine rl.run 1 rfl (rl.done (RW.sreg (rl.run 2 rfl ?_)))
    obtain ⟨v6, e6, h10⟩ := bindS h9
    refine rl.call rfl rfl rfl (CallW.val (r' := .tup [.agg (enc_TItem false v6.1), .bool v6.2]) ok_impl_boxThere (law_impl_boxThere e6) (.cons (.lst ek_TItem) (.cons .int .nil)) (FlL.tup (.cons .refl (.cons .refl .nil))) ?_)
    refine rl.run 6 rfl (rl.done (RW.sreg (rl.run 1 rfl (rl.done ?_))))
    refine RW.kp [0, 2, 3, 6, 14, 15, 16, 26] [(0, L_TItem x0), (2, .ptr 0 0), (3, .ptr 1 0), (6, .ptr 3 0), (14, L_I v2), (15, .j (v2.length : Int)), (16, .j s3.1), (26, .bool v6.2)] [some ⟨[.nils], 0⟩, some ⟨[.sl 2 0 s3.2.length], 0⟩, some ⟨fl (enc_TBox true) s3.2, 5⟩, some ⟨[.j v6.1.Seq, .j v6.1.Rec.Kind, .j v6.1.Rec.Valid, .j v6.1.Rec.Uid, .j v6.1.Rec.Next, .j v6.1.Rec.Flags, .str v6.1.Rec.User, .str v6.1.Rec.Name, .str v6.1.Rec.Text], 0⟩] rfl rfl ?_
    cases hb : v6.2
    ·have h11 := iteBF h10 hb
     refine RW.cond_f rfl (RW.skip (RW.reg (rl.run 2 rfl (rl.done ?_))))
     cases h11
     exact hB5 _ rfl _ _ (Gh.ren0 [0, 1, 2] (.cells rfl rfl (.keep .nils .nil) (.cells rfl rfl (.slq rfl rfl .nil) (.same rfl (ek_TBox.fref _ _) .nil))) rfl (.cons rfl (.dat (ek_TItem.rlst)) (.cons rfl (.ptr rfl) (.cons rfl (.ptr rfl) (.cons rfl (.dat (ekI.rlst)) (.cons rfl (.dat .int) (.cons rfl (.dat .int) .nil)))))))
    ·have h12 := iteBT h10 hb
     refine RW.cond_t rfl (RW.drw (rdraw.op rfl rfl (rdraw.op rfl rfl (rdraw.op rfl rfl (rdraw.op rfl rfl ?_)))))
     obtain ⟨v7, e7, h13⟩ := bindS h12
     refine rdraw.ccallB rfl rfl rfl (CallW.own (r' := .agg [.j v7.Valid, .str v7.User, .str v7.Name, .j v7.Next, .sl 4 0 v7.Mails.length]) (H' := [some ⟨[.nils], 0⟩, some ⟨[.sl 2 0 s3.2.length], 0⟩, some ⟨fl (enc_TBox true) s3.2, 5⟩, some ⟨[.j v6.1.Seq, .j v6.1.Rec.Kind, .j v6.1.Rec.Valid, .j v6.1.Rec.Uid, .j v6.1.Rec.Next, .j v6.1.Rec.Flags, .str v6.1.Rec.User, .str v6.1.Rec.Name, .str v6.1.Rec.Text], 0⟩, some ⟨fl (enc_TMail true) v7.Mails, 3⟩]) ok_impl_boxState (law_impl_boxState e7) (.cons (.lst ek_TItem) (.cons (DFL.agg (.cons .int (.cons .int (.cons .int (.cons .int (.cons .int (.cons .int (.cons .str (.cons .str (.cons .str .nil)))))))))) .nil)) (ek_TBox.own _) rfl ⟨(.skip rfl (.skip rfl (.here (.rx rfl) (.here (.rx rfl) .nil)))), ?_⟩)
     refine rdraw.chnB rfl rfl (.skip rfl (.skip rfl (.here (.rx rfl) (.here (.rx rfl) .nil)))) ?_
     obtain ⟨v8, e8, h14⟩ := bindS h13
     refine rdraw.chn rfl (x_app rfl rfl (rapp_raw ek_TBox rfl rfl (acont_one rfl rfl rfl) e8)) ?_
     refine rdraw.op rfl rfl ?_
     refine rdraw.chn rfl rfl ?_
     refine rdraw.done ?_
     refine RW.gh (Gh.absorb_rawq (b := 6) (j := 4) (m := 4) rfl rfl rfl (by decide) (by decide) rfl (ek_TMail.flen true _) (ek_TMail.fown _)) ?_
     refine RW.gh (Gh.blk (b := 6) rfl (raw_app (enc := enc_TBox) e8 rfl)) ?_
     refine RW.reg (rl.run 2 rfl (rl.done ?_))
     cases h14
     exact hB5 _ rfl _ _ (Gh.ren0 [0, 1, 6] (.cells rfl rfl (.keep .nils .nil) (.cells rfl rfl (.slq rfl rfl .nil) (.same rfl (ek_TBox.fref _ _) .nil))) rfl (.cons rfl (.dat (ek_TItem.rlst)) (.cons rfl (.ptr rfl) (.cons rfl (.ptr rfl) (.cons rfl (.dat (ekI.rlst)) (.cons rfl (.dat .int) (.cons rfl (.dat .int) .nil)))))))
  ·intro y4 hC
   subst hC
   refine RW.sreg (rl.run 2 rfl (rl.done (RW.ret ?_)))
   cases h6
   exact RRet.mk rfl (OutL.agg (.cons (OutR.ownq ek_TBox rfl rfl) rfl .nil)) (by first | decide | simp)
theorem law_impl_NextsOf_1_w {x0 : TBox} {x1 : TBox} {r : Bool} (hF : F_impl_NextsOf_1_w x0 x1 = some r) : ACalls Try.prog 1 93 [.agg (enc_TBox false x0), .ptr 0 0] [some ⟨[.j x1.Valid, .str x1.User, .str x1.Name, .j x1.Next, L_TMail x1.Mails], 0⟩] (.bool r) [some ⟨[.j x1.Valid, .str x1.User, .str x1.Name, .j x1.Next, L_TMail x1.Mails], 0⟩] := by
 refine ACalls.of_s k_impl_NextsOf_1 rfl ?_
 unfold F_impl_NextsOf_1_w at hF
 refine RW.sreg (rl.run 2 rfl (rl.done (RW.sreg (rl.run 6 rfl (rl.done (RW.ret ?_))))))
 cases hF
 exact RRetS.mk rfl .bool (Gh.renN [0] (.cells rfl rfl (.keep .int (.keep .str (.keep .str (.keep .int (.keep (ek_TMail.rlst) .nil))))) .nil) rfl rfl rfl .nil)
theorem law_slices_IndexFunc_Box_NextsOf_1 {x0 : List TBox} {x1 : TBox} {r : Int} (hF : F_slices_IndexFunc_Box_NextsOf_1 x0 x1 = some r) : ACalls Try.prog 1 92 [L_TBox x0, .fn 93 [.ptr 0 0]] [some ⟨[.j x1.Valid, .str x1.User, .str x1.Name, .j x1.Next, L_TMail x1.Mails], 0⟩] (.j r) [some ⟨[.j x1.Valid, .str x1.User, .str x1.Name, .j x1.Next, L_TMail x1.Mails], 0⟩] := by
 refine ACalls.of_s k_slices_IndexFunc_Box rfl ?_
 unfold F_slices_IndexFunc_Box_NextsOf_1 at hF
 refine RW.sreg (rl.run 1 rfl (rl.done (RW.seq (RW.sreg (rl.run 3 rfl (rl.done ?_))))))
 obtain ⟨y5, ey5, h2⟩ := bindS hF
 refine RW.cutq (σ := Unit) (fun y2 => []) (fun y2 => [some ⟨[.j x1.Valid, .str x1.User, .str x1.Name, .j x1.Next, L_TMail x1.Mails], 0⟩]) (fun y => y5 = .inr y) (fun _ _ _ _ g h => RW.gh g h) ?_ ?_
 ·refine RW.blk ?_
  refine RW.iter (σ := Int) ey5 (fun s1 => [(0, L_TBox x0), (1, .fn 93 [.ptr 0 0]), (7, .j (x0.length : Int)), (8, .j s1)]) (fun s1 => [some ⟨[.j x1.Valid, .str x1.User, .str x1.Name, .j x1.Next, L_TMail x1.Mails], 0⟩]) (Gh.renN [0] (.cells rfl rfl (.keep .int (.keep .str (.keep .str (.keep .int (.keep (ek_TMail.rlst) .nil))))) .nil) rfl rfl rfl (.cons rfl (.dat (ek_TBox.rlst)) (.cons rfl (RnL.fn (.cons (.ptr rfl) .nil)) (.cons rfl (.dat .int) (.cons rfl (.dat .int) .nil))))) (fun s1 B o hS1 hB1 hE1 => ?_)
  unfold S_slices_IndexFunc_Box_NextsOf_1_1 at hS1
  refine RW.sreg ?_
  refine rl.gen rfl rfl fun b hb => ?_
  cases b
  ·have h3 := iteBF hS1 hb
   refine rl.done (RW.seq (RW.cond_f rfl (RW.exit (blkA_eq ?_))))
   cases h3
   exact ⟨_, (hE1 _ rfl).symm, (Gh.renN [0] (.cells rfl rfl (.keep .int (.keep .str (.keep .str (.keep .int (.keep (ek_TMail.rlst) .nil))))) .nil) rfl rfl rfl .nil)⟩
  ·have h4 := iteBT hS1 hb
   refine rl.done (RW.seq (RW.cond_t rfl (RW.skip (RW.seq (RW.blk (RW.sreg (rl.run 2 rfl (rl.done (RW.sreg (rl.run 3 rfl ?_))))))))))
   obtain ⟨v3, e3, h5⟩ := bindS h4
   refine rl.op (x_ia_lst (enc := enc_TBox) (o := false) rfl rfl rfl e3) ?_
   refine rl.op (x_ld_ela (off' := 0) (vs := (enc_TBox false v3)) ek_TBox rfl e3 rfl rfl rfl) ?_
   obtain ⟨v4, e4, h6⟩ := bindS h5
   refine rl.call rfl rfl rfl (CallW.embR [0] ok_impl_NextsOf_1 (law_impl_NextsOf_1_w e4) (.cells rfl rfl (.keep .int (.keep .str (.keep .str (.keep .int (.keep (ek_TMail.rlst) .nil))))) .nil) rfl rfl (.cons (.dat (ek_TBox.rrec)) (.cons (.ptr rfl) .nil)) .bool ?_)
   cases hb : v4
   ·have h7 := iteBF h6 hb
    refine rl.done (RW.cond_f rfl (RW.skip (RW.reg (rl.run 2 rfl (rl.done ?_)))))
    cases h7
    exact hB1 _ rfl _ _ (Gh.renN [0] (.cells rfl rfl (.keep .int (.keep .str (.keep .str (.keep .int (.keep (ek_TMail.rlst) .nil))))) .nil) rfl rfl rfl (.cons rfl (.dat (ek_TBox.rlst)) (.cons rfl (RnL.fn (.cons (.ptr rfl) .nil)) (.cons rfl (.dat .int) (.cons rfl (.dat .int) .nil)))))
   ·have h8 := iteBT h6 hb
    refine rl.done (RW.cond_t rfl (RW.sreg (rl.run 2 rfl (rl.done ?_))))
    refine RW.kp [4] [(4, .j s1)] [some ⟨[.j x1.Valid, .str x1.User, .str x1.Name, .j x1.Next, L_TMail x1.Mails], 0⟩] rfl rfl ?_
    refine RW.ret ?_
    cases h8
    have h9 := elimL h2 (hE1 _ rfl)
    cases h9
    exact RRetS.mk rfl .int (Gh.renN [0] (.cells rfl rfl (.keep .int (.keep .str (.keep .str (.keep .int (.keep (ek_TMail.rlst) .nil))))) .nil) rfl rfl rfl .nil)
 ·intro y2 hC
  have h2 := elimR h2 hC
  refine RW.sreg (rl.run 1 rfl (rl.done (RW.ret ?_)))
  cases h2
  exact RRetS.mk rfl .int (Gh.renN [0] (.cells rfl rfl (.keep .int (.keep .str (.keep .str (.keep .int (.keep (ek_TMail.rlst) .nil))))) .nil) rfl rfl rfl .nil)
set_option maxHeartbeats 2000000 in
theorem law_impl_NextsOf {x0 : List TItem} {x1 : List Bool} {r : List TRec} (hF : F_impl_NextsOf x0 x1 = some r) : PCalls Try.prog 43 [L_TItem x0, L_O x1] (.lst true 8 (fl (enc_TRec true) r) r.length) := by
 refine PCalls.of_r k_impl_NextsOf rfl ?_
 unfold F_impl_NextsOf at hF
 refine RW.sreg (rl.run 1 rfl (rl.done (RW.sreg (rl.run 2 rfl ?_))))
 obtain ⟨v1, e1, h1⟩ := bindS hF
 refine rl.call rfl rfl rfl (CallW.val (r' := L_TItem v1) ok_impl_Without (law_impl_Without e1) (.cons (.lst ek_TItem) (.cons (.lst ekO) .nil)) (ek_TItem.fflag _).lst ?_)
 obtain ⟨v2, e2, h2⟩ := bindS h1
 refine rl.call rfl rfl rfl (CallW.val (r' := .agg (enc_TState false v2)) ok_impl_StateOf (law_impl_StateOf e2) (.cons (.lst ek_TItem) .nil) (ek_TState.flag _).agg ?_)
 refine rl.run 2 rfl (rl.done (RW.sreg (rl.run 2 rfl (rl.done (RW.seq (RW.sreg (rl.run 1 rfl ?_)))))))
 obtain ⟨v3, e3, h3⟩ := bindS h2
 refine rl.call rfl rfl rfl (CallW.val (r' := .agg (enc_TState false v3)) ok_impl_StateOf (law_impl_StateOf e3) (.cons (.lst ek_TItem) .nil) (ek_TState.flag _).agg ?_)
 refine rl.run 3 rfl (rl.done ?_)
 refine RW.gh (Gh.nil_t 6 8 rfl) ?_
 obtain ⟨y11, ey11, h5⟩ := bindS h3
 refine RW.cutq (σ := (List TRec)) (fun y5 => [(6, .sl 0 0 y5.length)]) (fun y5 => [some ⟨fl (enc_TRec true) y5, 8⟩]) (fun y => y11 = y) (fun _ _ _ _ g h => RW.gh g h) ?_ ?_
 ·refine RW.blk ?_
  refine RW.iter (σ := Int × (List TRec)) ey11 (fun s4 => [(5, .ptr 0 0), (6, .sl 1 0 s4.2.length), (17, L_TBox v3.Boxes), (18, .j (v3.Boxes.length : Int)), (19, .j s4.1)]) (fun s4 => [some ⟨[L_TBox v2.Boxes], 0⟩, some ⟨fl (enc_TRec true) s4.2, 8⟩]) (Gh.ren0 [0, 1] (.cells rfl rfl (.keep (ek_TBox.rlst) .nil) (.same rfl (ek_TRec.fref _ _) .nil)) rfl (.cons rfl (.ptr rfl) (.cons rfl (.slq rfl rfl) (.cons rfl (.dat (ek_TBox.rlst)) (.cons rfl (.dat .int) (.cons rfl (.dat .int) .nil)))))) (fun s4 B o hS4 hB4 hE4 => ?_)
  unfold S_impl_NextsOf_1 at hS4
  refine RW.sreg ?_
  refine rl.gen rfl rfl fun b hb => ?_
  cases b
  ·have h6 := iteBF hS4 hb
   refine rl.done (RW.seq (RW.cond_f rfl (RW.exit (blkA_eq ?_))))
   cases h6
   exact ⟨_, (hE4 _ rfl).symm, (Gh.ren0 [1] (.same rfl (ek_TRec.fref _ _) .nil) rfl (.cons rfl (.slq rfl rfl) .nil))⟩
  ·have h7 := iteBT hS4 hb
   refine rl.done (RW.seq (RW.cond_t rfl (RW.skip (RW.seq (RW.blk (RW.sreg ?_))))))
   obtain ⟨v6, e6, h8⟩ := bindS h7
   refine rl.op (x_ia_lst (enc := enc_TBox) (o := false) rfl rfl rfl e6) ?_
   refine rl.op (x_ld_ela (off' := 0) (vs := (enc_TBox false v6)) ek_TBox rfl e6 rfl rfl rfl) ?_
   refine rl.run 2 rfl (rl.done (RW.sreg (rl.run 3 rfl ?_)))
   obtain ⟨v7, e7, h9⟩ := bindS h8
   refine rl.call rfl rfl rfl (CallW.embR [2] ok_slices_IndexFunc_Box (law_slices_IndexFunc_Box_NextsOf_1 e7) (.cells rfl rfl (.keep .int (.keep .str (.keep .str (.keep .int (.keep (ek_TMail.rlst) .nil))))) .nil) rfl rfl (.cons (.dat (ek_TBox.rlst)) (.cons (RnL.fn (.cons (.ptr rfl) .nil)) .nil)) .int ?_)
   refine rl.run 1 rfl (rl.done (RW.seq ?_))
   obtain ⟨y8, ey8, h10⟩ := bindS h9
   refine RW.cutq (σ := Bool) (fun y8 => [(5, .ptr 0 0), (6, .sl 1 0 s4.2.length), (8, .ptr 2 0), (17, L_TBox v3.Boxes), (18, .j (v3.Boxes.length : Int)), (19, .j s4.1), (39, .bool y8)]) (fun y8 => [some ⟨[L_TBox v2.Boxes], 0⟩, some ⟨fl (enc_TRec true) s4.2, 8⟩, some ⟨[.j v6.Valid, .str v6.User, .str v6.Name, .j v6.Next, L_TMail v6.Mails], 0⟩]) (fun y => y8 = y) (fun _ _ _ _ g h => RW.gh g h) ?_ ?_
   ·refine RW.drw ?_
    refine rdraw.op rfl rfl ?_
    refine rdraw.gen rfl rfl fun b hb => ?_
    cases b
    ·have h11 := iteBF ey8 hb
     refine rdraw.op rfl rfl (rdraw.op rfl rfl (rdraw.op rfl rfl (rdraw.op rfl rfl ?_)))
     obtain ⟨v9, e9, h12⟩ := bindS h11
     refine rdraw.op rfl (x_ia_lst (enc := enc_TBox) (o := false) rfl rfl rfl e9) ?_
     refine rdraw.op rfl rfl ?_
     refine rdraw.op rfl (x_ld_el (off' := 3) ek_TBox rfl e9 rfl rfl rfl) ?_
     refine rdraw.op rfl rfl (rdraw.op rfl rfl ?_)
     refine rdraw.gen rfl rfl fun b hb => ?_
     cases b
     ·have h13 := iteBF h12 hb
      refine rdraw.op rfl rfl (rdraw.done ?_)
      cases h13
      exact ⟨_, rfl, (Gh.ren0 [0, 1, 2] (.cells rfl rfl (.keep (ek_TBox.rlst) .nil) (.same rfl (ek_TRec.fref _ _) (.cells rfl rfl (.keep .int (.keep .str (.keep .str (.keep .int (.keep (ek_TMail.rlst) .nil))))) .nil))) rfl (.cons rfl (.ptr rfl) (.cons rfl (.slq rfl rfl) (.cons rfl (.ptr rfl) (.cons rfl (.dat (ek_TBox.rlst)) (.cons rfl (.dat .int) (.cons rfl (.dat .int) (.cons rfl (.dat .bool) .nil))))))))⟩
     ·have h14 := iteBT h12 hb
      refine rdraw.op rfl rfl (rdraw.done ?_)
      cases h14
      exact ⟨_, rfl, (Gh.ren0 [0, 1, 2] (.cells rfl rfl (.keep (ek_TBox.rlst) .nil) (.same rfl (ek_TRec.fref _ _) (.cells rfl rfl (.keep .int (.keep .str (.keep .str (.keep .int (.keep (ek_TMail.rlst) .nil))))) .nil))) rfl (.cons rfl (.ptr rfl) (.cons rfl (.slq rfl rfl) (.cons rfl (.ptr rfl) (.cons rfl (.dat (ek_TBox.rlst)) (.cons rfl (.dat .int) (.cons rfl (.dat .int) (.cons rfl (.dat .bool) .nil))))))))⟩
    ·have h15 := iteBT ey8 hb
     refine rdraw.op rfl rfl (rdraw.off rfl (rdraw.off rfl (rdraw.off rfl (rdraw.off rfl (rdraw.off rfl (rdraw.off rfl (rdraw.off rfl (rdraw.off rfl (rdraw.off rfl (rdraw.op rfl rfl (rdraw.done ?_)))))))))))
     cases h15
     exact ⟨_, rfl, (Gh.ren0 [0, 1, 2] (.cells rfl rfl (.keep (ek_TBox.rlst) .nil) (.same rfl (ek_TRec.fref _ _) (.cells rfl rfl (.keep .int (.keep .str (.keep .str (.keep .int (.keep (ek_TMail.rlst) .nil))))) .nil))) rfl (.cons rfl (.ptr rfl) (.cons rfl (.slq rfl rfl) (.cons rfl (.ptr rfl) (.cons rfl (.dat (ek_TBox.rlst)) (.cons rfl (.dat .int) (.cons rfl (.dat .int) (.cons rfl (.dat .bool) .nil))))))))⟩
   ·intro y hC
    subst hC
    cases hb : y8
    ·have h16 := iteBF h10 hb
     refine RW.cond_f rfl (RW.skip (RW.reg (rl.run 2 rfl (rl.done ?_))))
     cases h16
     exact hB4 _ rfl _ _ (Gh.ren0 [0, 1] (.cells rfl rfl (.keep (ek_TBox.rlst) .nil) (.same rfl (ek_TRec.fref _ _) .nil)) rfl (.cons rfl (.ptr rfl) (.cons rfl (.slq rfl rfl) (.cons rfl (.dat (ek_TBox.rlst)) (.cons rfl (.dat .int) (.cons rfl (.dat .int) .nil))))))
    ·have h17 := iteBT h10 hb
     refine RW.cond_t rfl (RW.reg (rl.run 11 rfl ?_))
     obtain ⟨v10, e10, h18⟩ := bindS h17
     refine rl.op (x_app rfl rfl (rapp_sl (l := s4.2) (m := [({ Kind := 1, Valid := v6.Valid, Uid := 0, Next := v6.Next, Flags := 0, User := v6.User, Name := v6.Name, Text := [] } : TRec)]) (o := true) ek_TRec rfl rfl (acont_slq (m := [({ Kind := 1, Valid := v6.Valid, Uid := 0, Next := v6.Next, Flags := 0, User := v6.User, Name := v6.Name, Text := [] } : TRec)]) (o := true) fk_TRec rfl rfl) rfl (fk_TRec.fst _ _) e10)) ?_
     refine rl.run 1 rfl (rl.done (RW.reg (rl.run 2 rfl (rl.done ?_))))
     cases h18
     exact hB4 _ rfl _ _ (Gh.ren0 [0, 4] (.cells rfl rfl (.keep (ek_TBox.rlst) .nil) (.same rfl (ek_TRec.fref _ _) .nil)) rfl (.cons rfl (.ptr rfl) (.cons rfl (.slq rfl rfl) (.cons rfl (.dat (ek_TBox.rlst)) (.cons rfl (.dat .int) (.cons rfl (.dat .int) .nil))))))
 ·intro y5 hC
  subst hC
  refine RW.sreg (rl.run 2 rfl (rl.done (RW.ret ?_)))
  cases h5
  exact RRet.mk rfl (OutR.ownq ek_TRec rfl rfl) (by first | decide | simp)
set_option maxHeartbeats 2000000 in
theorem law_impl_Shrunk {x0 : List TItem} {x1 : List Bool} {x2 : Int} {r : List TItem} (hF : F_impl_Shrunk x0 x1 x2 = some r) : PCalls Try.prog 27 [L_TItem x0, L_O x1, .j x2] (.lst true 9 (fl (enc_TItem true) r) r.length) := by
 refine PCalls.of_r k_impl_Shrunk rfl ?_
 unfold F_impl_Shrunk at hF
 refine RW.sreg (rl.run 1 rfl (rl.done (RW.sreg (rl.run 1 rfl ?_))))
 obtain ⟨v1, e1, h1⟩ := bindS hF
 refine rl.call rfl rfl rfl (CallW.val (r' := L_O v1) ok_impl_NeededAll (law_impl_NeededAll e1) (.cons (.lst ek_TItem) .nil) (ekO.fflag _).lst ?_)
 refine rl.run 1 rfl (rl.done (RW.sreg (rl.run 2 rfl (rl.done (RW.seq (RW.sreg (rl.run 3 rfl (rl.done ?_))))))))
 refine RW.gh (Gh.nil_t 8 1 rfl) ?_
 obtain ⟨y8, ey8, h3⟩ := bindS h1
 refine RW.cutq (σ := (List Bool)) (fun y3 => [(0, L_TItem x0), (2, .j x2), (8, .sl 0 0 y3.length)]) (fun y3 => [some ⟨fl (encO true) y3, 1⟩]) (fun y => y8 = y) (fun _ _ _ _ g h => RW.gh g h) ?_ ?_
 ·refine RW.blk ?_
  refine RW.iter (σ := Int × (List Bool)) ey8 (fun s2 => [(0, L_TItem x0), (1, L_O x1), (2, .j x2), (7, L_O v1), (8, .sl 0 0 s2.2.length), (17, .j (x0.length : Int)), (18, .j s2.1)]) (fun s2 => [some ⟨fl (encO true) s2.2, 1⟩]) (Gh.ren0 [0] (.same rfl (ekO.fref _ _) .nil) rfl (.cons rfl (.dat (ek_TItem.rlst)) (.cons rfl (.dat (ekO.rlst)) (.cons rfl (.dat .int) (.cons rfl (.dat (ekO.rlst)) (.cons rfl (.slq rfl rfl) (.cons rfl (.dat .int) (.cons rfl (.dat .int) .nil)))))))) (fun s2 B o hS2 hB2 hE2 => ?_)
  unfold S_impl_Shrunk_1 at hS2
  refine RW.sreg ?_
  refine rl.gen rfl rfl fun b hb => ?_
  cases b
  ·have h4 := iteBF hS2 hb
   refine rl.done (RW.seq (RW.cond_f rfl (RW.exit (blkA_eq ?_))))
   cases h4
   exact ⟨_, (hE2 _ rfl).symm, (Gh.ren0 [0] (.same rfl (ekO.fref _ _) .nil) rfl (.cons rfl (.dat (ek_TItem.rlst)) (.cons rfl (.dat .int) (.cons rfl (.slq rfl rfl) .nil))))⟩
  ·have h5 := iteBT hS2 hb
   refine rl.done (RW.seq (RW.cond_t rfl (RW.skip (RW.seq (RW.blk (RW.sreg (rl.run 2 rfl (rl.done (RW.reg (rl.run 3 rfl ?_))))))))))
   obtain ⟨v4, e4, h6⟩ := bindS h5
   refine rl.call rfl rfl rfl (CallW.val (r' := .bool v4) ok_impl_dropped (law_impl_dropped e4) (.cons (.lst ekO) (.cons .int .nil)) .refl ?_)
   cases hb : v4
   ·have h7 := iteBF h6 hb
    refine rl.run 8 rfl ?_
    obtain ⟨v5, e5, h8⟩ := bindS h7
    refine rl.op (x_app rfl rfl (rapp_sl (l := s2.2) (m := [false]) (o := true) ekO rfl rfl (acont_slq (m := [false]) (o := true) fkO rfl rfl) rfl (fkO.fst _ _) e5)) ?_
    refine rl.run 1 rfl (rl.done (RW.reg (rl.run 2 rfl (rl.done ?_))))
    cases h8
    exact hB2 _ rfl _ _ (Gh.ren0 [2] (.same rfl (ekO.fref _ _) .nil) rfl (.cons rfl (.dat (ek_TItem.rlst)) (.cons rfl (.dat (ekO.rlst)) (.cons rfl (.dat .int) (.cons rfl (.dat (ekO.rlst)) (.cons rfl (.slq rfl rfl) (.cons rfl (.dat .int) (.cons rfl (.dat .int) .nil))))))))
   ·have h9 := iteBT h6 hb
    refine rl.run 3 rfl ?_
    obtain ⟨v6, e6, h10⟩ := bindS h9
    refine rl.gop rfl (x_ia_lst (enc := encO) (o := false) rfl rfl rfl e6) ?_
    refine rl.gop rfl (x_ld_el (off' := 0) ekO rfl e6 rfl rfl rfl) ?_
    refine rl.run 3 rfl ?_
    obtain ⟨v7, e7, h11⟩ := bindS h10
    refine rl.op (x_app rfl rfl (rapp_sl (l := s2.2) (m := [!v6]) (o := true) ekO rfl rfl (acont_slq (m := [!v6]) (o := true) fkO rfl rfl) rfl (fkO.fst _ _) e7)) ?_
    refine rl.run 1 rfl (rl.done (RW.reg (rl.run 2 rfl (rl.done ?_))))
    cases h11
    exact hB2 _ rfl _ _ (Gh.ren0 [2] (.same rfl (ekO.fref _ _) .nil) rfl (.cons rfl (.dat (ek_TItem.rlst)) (.cons rfl (.dat (ekO.rlst)) (.cons rfl (.dat .int) (.cons rfl (.dat (ekO.rlst)) (.cons rfl (.slq rfl rfl) (.cons rfl (.dat .int) (.cons rfl (.dat .int) .nil))))))))
 ·intro y3 hC
  subst hC
  refine RW.sreg (rl.run 2 rfl ?_)
  obtain ⟨v9, e9, h12⟩ := bindS h3
  refine rl.call rfl rfl rfl (CallW.own (r' := .sl 1 0 v9.length) (H' := [some ⟨fl (encO true) y8, 1⟩, some ⟨fl (enc_TItem true) v9, 9⟩]) ok_impl_Without (law_impl_Without e9) (.cons (.lst ek_TItem) (.cons (.slq ekO rfl rfl) .nil)) (.lst (ek_TItem.fown _)) rfl ?_)
  refine rl.run 1 rfl (rl.done (RW.seq (RW.sreg (rl.run 2 rfl ?_))))
  obtain ⟨v10, e10, h13⟩ := bindS h12
  refine rl.call rfl rfl rfl (CallW.val (r' := L_TRec v10) ok_impl_NextsOf (law_impl_NextsOf e10) (.cons (.lst ek_TItem) (.cons (.slq ekO rfl rfl) .nil)) (ek_TRec.fflag _).lst ?_)
  refine rl.run 2 rfl (rl.done ?_)
  obtain ⟨y15, ey15, h15⟩ := bindS h13
  refine RW.cutq (σ := (List TItem)) (fun y12 => [(10, .sl 0 0 y12.length)]) (fun y12 => [some ⟨fl (enc_TItem true) y12, 9⟩]) (fun y => y15 = y) (fun _ _ _ _ g h => RW.gh g h) ?_ ?_
  ·refine RW.blk ?_
   refine RW.iter (σ := Int × (List TItem)) ey15 (fun s11 => [(2, .j x2), (10, .sl 0 0 s11.2.length), (40, L_TRec v10), (41, .j (v10.length : Int)), (42, .j s11.1)]) (fun s11 => [some ⟨fl (enc_TItem true) s11.2, 9⟩]) (Gh.ren0 [1] (.same rfl (ek_TItem.fref _ _) .nil) rfl (.cons rfl (.dat .int) (.cons rfl (.slq rfl rfl) (.cons rfl (.dat (ek_TRec.rlst)) (.cons rfl (.dat .int) (.cons rfl (.dat .int) .nil)))))) (fun s11 B o hS14 hB14 hE14 => ?_)
   unfold S_impl_Shrunk_2 at hS14
   refine RW.sreg ?_
   refine rl.gen rfl rfl fun b hb => ?_
   cases b
   ·have h16 := iteBF hS14 hb
    refine rl.done (RW.seq (RW.cond_f rfl (RW.exit (blkA_eq ?_))))
    cases h16
    exact ⟨_, (hE14 _ rfl).symm, (Gh.ren0 [0] (.same rfl (ek_TItem.fref _ _) .nil) rfl (.cons rfl (.slq rfl rfl) .nil))⟩
   ·have h17 := iteBT hS14 hb
    refine rl.done (RW.seq (RW.cond_t rfl (RW.skip (RW.seq (RW.blk (RW.sreg (rl.run 1 rfl ?_)))))))
    obtain ⟨v13, e13, h18⟩ := bindS h17
    refine rl.op (x_ia_lst (enc := enc_TRec) (o := false) rfl rfl rfl e13) ?_
    refine rl.op (x_ld_ela (off' := 0) (vs := (enc_TRec false v13)) ek_TRec rfl e13 rfl rfl rfl) ?_
    refine rl.run 3 rfl (rl.done (RW.reg (rl.run 7 rfl ?_)))
    obtain ⟨v14, e14, h19⟩ := bindS h18
    refine rl.op (x_app rfl rfl (rapp_sl (l := s11.2) (m := [({ Seq := w64 (x2 + s11.1), Rec := v13 } : TItem)]) (o := true) ek_TItem rfl rfl (acont_slq (m := [({ Seq := w64 (x2 + s11.1), Rec := v13 } : TItem)]) (o := true) fk_TItem rfl rfl) rfl (fk_TItem.fst _ _) e14)) ?_
    refine rl.run 1 rfl (rl.done (RW.reg (rl.run 2 rfl (rl.done ?_))))
    cases h19
    exact hB14 _ rfl _ _ (Gh.ren0 [3] (.same rfl (ek_TItem.fref _ _) .nil) rfl (.cons rfl (.dat .int) (.cons rfl (.slq rfl rfl) (.cons rfl (.dat (ek_TRec.rlst)) (.cons rfl (.dat .int) (.cons rfl (.dat .int) .nil))))))
  ·intro y12 hC
   subst hC
   refine RW.sreg (rl.run 2 rfl (rl.done (RW.ret ?_)))
   cases h15
   exact RRet.mk rfl (OutR.ownq ek_TItem rfl rfl) (by first | decide | simp)
theorem law_laws_chosen {x0 : Int} {x1 : List Int} {r : List Bool} (hF : F_laws_chosen x0 x1 = some r) : PCalls Try.prog 28 [.j x0, L_I x1] (.lst true 1 (fl (encO true) r) r.length) := by
 refine PCalls.of_r k_laws_chosen rfl ?_
 unfold F_laws_chosen at hF
 refine RW.sreg (rl.run 1 rfl (rl.done (RW.sreg (rl.run 2 rfl (rl.done (RW.seq (RW.sreg (rl.run 1 rfl (rl.done ?_)))))))))
 refine RW.gh (Gh.nil_t 5 1 rfl) ?_
 obtain ⟨y6, ey6, h2⟩ := bindS hF
 refine RW.cutq (σ := (List Bool)) (fun y2 => [(5, .sl 0 0 y2.length)]) (fun y2 => [some ⟨fl (encO true) y2, 1⟩]) (fun y => y6 = y) (fun _ _ _ _ g h => RW.gh g h) ?_ ?_
 ·refine RW.blk ?_
  refine RW.iter (σ := Int × (List Bool)) ey6 (fun s1 => [(0, .j x0), (1, L_I x1), (5, .sl 0 0 s1.2.length), (6, .j s1.1)]) (fun s1 => [some ⟨fl (encO true) s1.2, 1⟩]) (Gh.ren0 [0] (.same rfl (ekO.fref _ _) .nil) rfl (.cons rfl (.dat .int) (.cons rfl (.dat (ekI.rlst)) (.cons rfl (.slq rfl rfl) (.cons rfl (.dat .int) .nil))))) (fun s1 B o hS1 hB1 hE1 => ?_)
  unfold S_laws_chosen_1 at hS1
  refine RW.seq (RW.sreg (rl.run 2 rfl ?_))
  refine rl.gen rfl rfl fun b hb => ?_
  cases b
  ·have h3 := iteBF hS1 hb
   refine rl.done (RW.cond_f rfl (RW.exit (blkA_eq ?_)))
   cases h3
   exact ⟨_, (hE1 _ rfl).symm, (Gh.ren0 [0] (.same rfl (ekO.fref _ _) .nil) rfl (.cons rfl (.slq rfl rfl) .nil))⟩
  ·have h4 := iteBT hS1 hb
   refine rl.done (RW.cond_t rfl (RW.skip (RW.seq (RW.blk (RW.reg (rl.run 5 rfl ?_))))))
   obtain ⟨v3, e3, h5⟩ := bindS h4
   refine rl.op (x_rem rfl rfl e3) ?_
   obtain ⟨v4, e4, h6⟩ := bindS h5
   refine rl.op (x_ia_lst (enc := encI) (o := false) rfl rfl rfl e4) ?_
   refine rl.op (x_ld_el (off' := 0) ekI rfl e4 rfl rfl rfl) ?_
   refine rl.run 3 rfl ?_
   obtain ⟨v5, e5, h7⟩ := bindS h6
   refine rl.op (x_app rfl rfl (rapp_sl (l := s1.2) (m := [((Int.tmod v4 2) == 1)]) (o := true) ekO rfl rfl (acont_slq (m := [((Int.tmod v4 2) == 1)]) (o := true) fkO rfl rfl) rfl (fkO.fst _ _) e5)) ?_
   refine rl.run 1 rfl (rl.done (RW.reg (rl.run 3 rfl (rl.done ?_))))
   cases h7
   exact hB1 _ rfl _ _ (Gh.ren0 [2] (.same rfl (ekO.fref _ _) .nil) rfl (.cons rfl (.dat .int) (.cons rfl (.dat (ekI.rlst)) (.cons rfl (.slq rfl rfl) (.cons rfl (.dat .int) .nil)))))
 ·intro y2 hC
  subst hC
  refine RW.sreg (rl.run 2 rfl (rl.done (RW.ret ?_)))
  cases h2
  exact RRet.mk rfl (OutR.ownq ekO rfl rfl) (by first | decide | simp)
theorem law_spec_l01In {x0 : Int} {x1 : Int} {x2 : Int} {r : Bool} (hF : F_spec_l01In x0 x1 x2 = some r) : PCalls Try.prog 67 [.j x0, .j x1, .j x2] (.bool r) := by
 refine PCalls.of_r k_spec_l01In rfl ?_
 unfold F_spec_l01In at hF
 refine RW.sreg (rl.run 1 rfl (rl.done (RW.sreg (rl.run 2 rfl ?_))))
 refine rl.gen rfl rfl fun b hb => ?_
 cases b
 ·have h1 := iteBF hF hb
  refine rl.run 6 rfl (rl.done ?_)
  refine RW.kp [6] [(6, .bool false)] [] rfl rfl ?_
  refine RW.ret ?_
  cases h1
  exact RRet.mk rfl .bool (by first | decide | simp)
 ·have h2 := iteBT hF hb
  refine rl.run 6 rfl (rl.done ?_)
  refine RW.kp [6] [(6, .bool (decide (x0 ≤ x2)))] [] rfl rfl ?_
  refine RW.ret ?_
  cases h2
  exact RRet.mk rfl .bool (by first | decide | simp)
theorem law_spec_WordOk {x0 : List UInt8} {r : Bool} (hF : F_spec_WordOk x0 = some r) : PCalls Try.prog 124 [.str x0] (.bool r) := by
 refine PCalls.of_r k_spec_WordOk rfl ?_
 unfold F_spec_WordOk at hF
 refine RW.sreg (rl.run 1 rfl (rl.done (RW.seq (RW.sreg (rl.run 1 rfl (rl.done ?_))))))
 obtain ⟨y6, ey6, h2⟩ := bindS hF
 refine RW.cutq (σ := Unit) (fun y2 => [(0, .str x0)]) (fun y2 => []) (fun y => y6 = .inr y) (fun _ _ _ _ g h => RW.gh g h) ?_ ?_
 ·refine RW.blk ?_
  refine RW.iter (σ := Int) ey6 (fun s1 => [(0, .str x0), (3, .j s1)]) (fun s1 => []) (Gh.ren0 [] .nil rfl (.cons rfl (.dat .str) (.cons rfl (.dat .int) .nil))) (fun s1 B o hS1 hB1 hE1 => ?_)
  unfold S_spec_WordOk_1 at hS1
  refine RW.seq (RW.sreg (rl.run 3 rfl ?_))
  refine rl.gen rfl rfl fun b hb => ?_
  cases b
  ·have h3 := iteBF hS1 hb
   refine rl.done (RW.cond_f rfl (RW.exit (blkA_eq ?_)))
   cases h3
   exact ⟨_, (hE1 _ rfl).symm, (Gh.ren0 [] .nil rfl (.cons rfl (.dat .str) .nil))⟩
  ·have h4 := iteBT hS1 hb
   refine rl.done (RW.cond_t rfl (RW.skip (RW.seq (RW.blk (RW.seq ?_)))))
   obtain ⟨y3, ey3, h5⟩ := bindS h4
   refine RW.cutq (σ := Bool) (fun y3 => [(0, .str x0), (3, .j s1), (19, .bool y3)]) (fun y3 => []) (fun y => y3 = y) (fun _ _ _ _ g h => RW.gh g h) ?_ ?_
   ·refine RW.reg ?_
    refine rl.run 2 rfl ?_
    obtain ⟨v4, e4, h6⟩ := bindS ey3
    refine rl.op (x_idx rfl rfl e4) ?_
    refine rl.gen rfl rfl fun b hb => ?_
    cases b
    ·have h7 := iteBF h6 hb
     refine rl.run 3 rfl ?_
     obtain ⟨v5, e5, h8⟩ := bindS h7
     refine rl.gop rfl (x_idx rfl rfl e5) ?_
     refine rl.gen rfl rfl fun b hb => ?_
     cases b
     ·have h9 := iteBF h8 hb
      refine rl.run 1 rfl (rl.done ?_)
      cases h9
      exact ⟨_, rfl, (Gh.ren0 [] .nil rfl (.cons rfl (.dat .str) (.cons rfl (.dat .int) (.cons rfl (.dat .bool) .nil))))⟩
     ·have h10 := iteBT h8 hb
      refine rl.run 1 rfl (rl.done ?_)
      cases h10
      exact ⟨_, rfl, (Gh.ren0 [] .nil rfl (.cons rfl (.dat .str) (.cons rfl (.dat .int) (.cons rfl (.dat .bool) .nil))))⟩
    ·have h11 := iteBT h6 hb
     refine rl.run 6 rfl (rl.done ?_)
     cases h11
     exact ⟨_, rfl, (Gh.ren0 [] .nil rfl (.cons rfl (.dat .str) (.cons rfl (.dat .int) (.cons rfl (.dat .bool) .nil))))⟩
   ·intro y hC
    subst hC
    cases hb : y3
    ·have h12 := iteBF h5 hb
     refine RW.cond_f rfl (RW.skip (RW.reg (rl.run 3 rfl (rl.done ?_))))
     cases h12
     exact hB1 _ rfl _ _ (Gh.ren0 [] .nil rfl (.cons rfl (.dat .str) (.cons rfl (.dat .int) .nil)))
    ·have h13 := iteBT h5 hb
     refine RW.cond_t rfl (RW.sreg (rl.run 1 rfl (rl.done (RW.ret ?_))))
     cases h13
     have h14 := elimL h2 (hE1 _ rfl)
     cases h14
     exact RRet.mk rfl .bool (by first | decide | simp)
 ·intro y2 hC
  have h2 := elimR h2 hC
  refine RW.sreg (rl.run 2 rfl ?_)
  obtain ⟨v7, e7, h15⟩ := bindS h2
  refine rl.call rfl rfl rfl (CallW.val (r' := .bool v7) ok_spec_l01In (law_spec_l01In e7) (.cons .int (.cons .int (.cons .int .nil))) .refl ?_)
  refine rl.run 1 rfl (rl.done (RW.ret ?_))
  cases h15
  exact RRet.mk rfl .bool (by first | decide | simp)
set_option maxHeartbeats 2000000 in
theorem law_spec_RecOk {x0 : TRec} {r : Bool} (hF : F_spec_RecOk x0 = some r) : PCalls Try.prog 86 [.agg (enc_TRec false x0)] (.bool r) := by
 refine PCalls.of_r k_spec_RecOk rfl ?_
 unfold F_spec_RecOk at hF
 refine RW.sreg (rl.run 2 rfl (rl.done (RW.seq (RW.seq ?_))))
 obtain ⟨y1, ey1, h1⟩ := bindS hF
 refine RW.cutq (σ := Bool) (fun y1 => [(1, .ptr 0 0), (15, .bool y1)]) (fun y1 => [some ⟨[.j x0.Kind, .j x0.Valid, .j x0.Uid, .j x0.Next, .j x0.Flags, .str x0.User, .str x0.Name, .str x0.Text], 0⟩]) (fun y => y1 = y) (fun _ _ _ _ g h => RW.gh g h) ?_ ?_
 ·refine RW.reg ?_
  refine rl.run 2 rfl ?_
  obtain ⟨v2, e2, h2⟩ := bindS ey1
  refine rl.call rfl rfl rfl (CallW.val (r' := .bool v2) ok_spec_l01In (law_spec_l01In e2) (.cons .int (.cons .int (.cons .int .nil))) .refl ?_)
  cases hb : v2
  ·have h3 := iteBF h2 hb
   refine rl.run 7 rfl (rl.done ?_)
   cases h3
   exact ⟨_, rfl, (Gh.ren0 [0] (.cells rfl rfl (.keep .int (.keep .int (.keep .int (.keep .int (.keep .int (.keep .str (.keep .str (.keep .str .nil)))))))) .nil) rfl (.cons rfl (.ptr rfl) (.cons rfl (.dat .bool) .nil)))⟩
  ·have h4 := iteBT h2 hb
   refine rl.run 4 rfl ?_
   obtain ⟨v3, e3, h5⟩ := bindS h4
   refine rl.call rfl rfl rfl (CallW.val (r' := .bool v3) ok_spec_l01In (law_spec_l01In e3) (.cons .int (.cons .int (.cons .int .nil))) .refl ?_)
   cases hb : v3
   ·have h6 := iteBF h5 hb
    refine rl.run 2 rfl (rl.done ?_)
    cases h6
    exact ⟨_, rfl, (Gh.ren0 [0] (.cells rfl rfl (.keep .int (.keep .int (.keep .int (.keep .int (.keep .int (.keep .str (.keep .str (.keep .str .nil)))))))) .nil) rfl (.cons rfl (.ptr rfl) (.cons rfl (.dat .bool) .nil)))⟩
   ·have h7 := iteBT h5 hb
    refine rl.run 2 rfl (rl.done ?_)
    cases h7
    exact ⟨_, rfl, (Gh.ren0 [0] (.cells rfl rfl (.keep .int (.keep .int (.keep .int (.keep .int (.keep .int (.keep .str (.keep .str (.keep .str .nil)))))))) .nil) rfl (.cons rfl (.ptr rfl) (.cons rfl (.dat .bool) .nil)))⟩
 ·intro y hC
  subst hC
  cases hb : y1
  ·have h8 := iteBF h1 hb
   refine RW.cond_f rfl (RW.skip (RW.sreg (rl.run 2 rfl ?_)))
   refine rl.gen rfl rfl fun b hb => ?_
   cases b
   ·have h9 := iteBF h8 hb
    refine rl.run 1 rfl (rl.done (RW.seq ?_))
    obtain ⟨y4, ey4, h10⟩ := bindS h9
    refine RW.cutq (σ := Bool) (fun y4 => [(1, .ptr 0 0), (3, .bool false), (4, .bool y4)]) (fun y4 => [some ⟨[.j x0.Kind, .j x0.Valid, .j x0.Uid, .j x0.Next, .j x0.Flags, .str x0.User, .str x0.Name, .str x0.Text], 0⟩]) (fun y => y4 = y) (fun _ _ _ _ g h => RW.gh g h) ?_ ?_
    ·refine RW.reg ?_
     refine rl.run 2 rfl ?_
     refine rl.gen rfl rfl fun b hb => ?_
     cases b
     ·have h11 := iteBF ey4 hb
      refine rl.run 3 rfl ?_
      refine rl.gen rfl rfl fun b hb => ?_
      cases b
      ·have h12 := iteBF h11 hb
       refine rl.run 4 rfl ?_
       refine rl.gen rfl rfl fun b hb => ?_
       cases b
       ·have h13 := iteBF h12 hb
        refine rl.run 2 rfl (rl.done ?_)
        cases h13
        exact ⟨_, rfl, (Gh.ren0 [0] (.cells rfl rfl (.keep .int (.keep .int (.keep .int (.keep .int (.keep .int (.keep .str (.keep .str (.keep .str .nil)))))))) .nil) rfl (.cons rfl (.ptr rfl) (.cons rfl (.dat .bool) (.cons rfl (.dat .bool) .nil))))⟩
       ·have h14 := iteBT h12 hb
        refine rl.run 2 rfl (rl.done ?_)
        cases h14
        exact ⟨_, rfl, (Gh.ren0 [0] (.cells rfl rfl (.keep .int (.keep .int (.keep .int (.keep .int (.keep .int (.keep .str (.keep .str (.keep .str .nil)))))))) .nil) rfl (.cons rfl (.ptr rfl) (.cons rfl (.dat .bool) (.cons rfl (.dat .bool) .nil))))⟩
      ·have h15 := iteBT h11 hb
       refine rl.run 7 rfl (rl.done ?_)
       cases h15
       exact ⟨_, rfl, (Gh.ren0 [0] (.cells rfl rfl (.keep .int (.keep .int (.keep .int (.keep .int (.keep .int (.keep .str (.keep .str (.keep .str .nil)))))))) .nil) rfl (.cons rfl (.ptr rfl) (.cons rfl (.dat .bool) (.cons rfl (.dat .bool) .nil))))⟩
     ·have h16 := iteBT ey4 hb
      refine rl.run 11 rfl (rl.done ?_)
      cases h16
      exact ⟨_, rfl, (Gh.ren0 [0] (.cells rfl rfl (.keep .int (.keep .int (.keep .int (.keep .int (.keep .int (.keep .str (.keep .str (.keep .str .nil)))))))) .nil) rfl (.cons rfl (.ptr rfl) (.cons rfl (.dat .bool) (.cons rfl (.dat .bool) .nil))))⟩
    ·intro y hC
     subst hC
     refine RW.seq ?_
     obtain ⟨y5, ey5, h17⟩ := bindS h10
     refine RW.cutq (σ := Bool) (fun y5 => [(1, .ptr 0 0), (3, .bool false), (4, .bool y4), (5, .bool y5)]) (fun y5 => [some ⟨[.j x0.Kind, .j x0.Valid, .j x0.Uid, .j x0.Next, .j x0.Flags, .str x0.User, .str x0.Name, .str x0.Text], 0⟩]) (fun y => y5 = y) (fun _ _ _ _ g h => RW.gh g h) ?_ ?_
     ·refine RW.reg ?_
      refine rl.run 2 rfl ?_
      refine rl.gen rfl rfl fun b hb => ?_
      cases b
      ·have h18 := iteBF ey5 hb
       refine rl.run 3 rfl ?_
       refine rl.gen rfl rfl fun b hb => ?_
       cases b
       ·have h19 := iteBF h18 hb
        refine rl.run 2 rfl (rl.done ?_)
        cases h19
        exact ⟨_, rfl, (Gh.ren0 [0] (.cells rfl rfl (.keep .int (.keep .int (.keep .int (.keep .int (.keep .int (.keep .str (.keep .str (.keep .str .nil)))))))) .nil) rfl (.cons rfl (.ptr rfl) (.cons rfl (.dat .bool) (.cons rfl (.dat .bool) (.cons rfl (.dat .bool) .nil)))))⟩
       ·have h20 := iteBT h18 hb
        refine rl.run 2 rfl (rl.done ?_)
        cases h20
        exact ⟨_, rfl, (Gh.ren0 [0] (.cells rfl rfl (.keep .int (.keep .int (.keep .int (.keep .int (.keep .int (.keep .str (.keep .str (.keep .str .nil)))))))) .nil) rfl (.cons rfl (.ptr rfl) (.cons rfl (.dat .bool) (.cons rfl (.dat .bool) (.cons rfl (.dat .bool) .nil)))))⟩
      ·have h21 := iteBT ey5 hb
       refine rl.run 6 rfl (rl.done ?_)
       cases h21
       exact ⟨_, rfl, (Gh.ren0 [0] (.cells rfl rfl (.keep .int (.keep .int (.keep .int (.keep .int (.keep .int (.keep .str (.keep .str (.keep .str .nil)))))))) .nil) rfl (.cons rfl (.ptr rfl) (.cons rfl (.dat .bool) (.cons rfl (.dat .bool) (.cons rfl (.dat .bool) .nil)))))⟩
     ·intro y hC
      subst hC
      refine RW.seq (RW.seq ?_)
      obtain ⟨y6, ey6, h22⟩ := bindS h17
      refine RW.cutq (σ := Bool) (fun y6 => [(1, .ptr 0 0), (4, .bool y4), (5, .bool y5), (77, .bool y6)]) (fun y6 => [some ⟨[.j x0.Kind, .j x0.Valid, .j x0.Uid, .j x0.Next, .j x0.Flags, .str x0.User, .str x0.Name, .str x0.Text], 0⟩]) (fun y => y6 = y) (fun _ _ _ _ g h => RW.gh g h) ?_ ?_
      ·refine RW.reg ?_
       refine rl.run 25 rfl ?_
       refine rl.gen rfl rfl fun b hb => ?_
       cases b
       ·have h23 := iteBF ey6 hb
        refine rl.run 3 rfl ?_
        refine rl.gen rfl rfl fun b hb => ?_
        cases b
        ·have h24 := iteBF h23 hb
         refine rl.run 4 rfl ?_
         refine rl.gen rfl rfl fun b hb => ?_
         cases b
         ·have h25 := iteBF h24 hb
          refine rl.run 3 rfl (rl.done ?_)
          cases h25
          exact ⟨_, rfl, (Gh.ren0 [0] (.cells rfl rfl (.keep .int (.keep .int (.keep .int (.keep .int (.keep .int (.keep .str (.keep .str (.keep .str .nil)))))))) .nil) rfl (.cons rfl (.ptr rfl) (.cons rfl (.dat .bool) (.cons rfl (.dat .bool) (.cons rfl (.dat .bool) .nil)))))⟩
         ·have h26 := iteBT h24 hb
          refine rl.run 3 rfl (rl.done ?_)
          cases h26
          exact ⟨_, rfl, (Gh.ren0 [0] (.cells rfl rfl (.keep .int (.keep .int (.keep .int (.keep .int (.keep .int (.keep .str (.keep .str (.keep .str .nil)))))))) .nil) rfl (.cons rfl (.ptr rfl) (.cons rfl (.dat .bool) (.cons rfl (.dat .bool) (.cons rfl (.dat .bool) .nil)))))⟩
        ·have h27 := iteBT h23 hb
         refine rl.run 8 rfl (rl.done ?_)
         cases h27
         exact ⟨_, rfl, (Gh.ren0 [0] (.cells rfl rfl (.keep .int (.keep .int (.keep .int (.keep .int (.keep .int (.keep .str (.keep .str (.keep .str .nil)))))))) .nil) rfl (.cons rfl (.ptr rfl) (.cons rfl (.dat .bool) (.cons rfl (.dat .bool) (.cons rfl (.dat .bool) .nil)))))⟩
       ·have h28 := iteBT ey6 hb
        refine rl.run 12 rfl (rl.done ?_)
        cases h28
        exact ⟨_, rfl, (Gh.ren0 [0] (.cells rfl rfl (.keep .int (.keep .int (.keep .int (.keep .int (.keep .int (.keep .str (.keep .str (.keep .str .nil)))))))) .nil) rfl (.cons rfl (.ptr rfl) (.cons rfl (.dat .bool) (.cons rfl (.dat .bool) (.cons rfl (.dat .bool) .nil)))))⟩
      ·intro y hC
       subst hC
       cases hb : y6
       ·have h29 := iteBF h22 hb
        refine RW.cond_f rfl (RW.skip (RW.seq (RW.seq ?_)))
        obtain ⟨y7, ey7, h30⟩ := bindS h29
        refine RW.cutq (σ := Bool) (fun y7 => [(1, .ptr 0 0), (5, .bool y5), (93, .bool y7)]) (fun y7 => [some ⟨[.j x0.Kind, .j x0.Valid, .j x0.Uid, .j x0.Next, .j x0.Flags, .str x0.User, .str x0.Name, .str x0.Text], 0⟩]) (fun y => y7 = y) (fun _ _ _ _ g h => RW.gh g h) ?_ ?_
        ·refine RW.reg ?_
         refine rl.run 2 rfl ?_
         cases hb : y4
         ·have h31 := iteBF ey7 hb
          refine rl.run 11 rfl ?_
          refine rl.gen rfl rfl fun b hb => ?_
          cases b
          ·have h32 := iteBF h31 hb
           refine rl.run 2 rfl (rl.done ?_)
           cases h32
           exact ⟨_, rfl, (Gh.ren0 [0] (.cells rfl rfl (.keep .int (.keep .int (.keep .int (.keep .int (.keep .int (.keep .str (.keep .str (.keep .str .nil)))))))) .nil) rfl (.cons rfl (.ptr rfl) (.cons rfl (.dat .bool) (.cons rfl (.dat .bool) .nil))))⟩
          ·have h33 := iteBT h31 hb
           refine rl.run 2 rfl (rl.done ?_)
           cases h33
           exact ⟨_, rfl, (Gh.ren0 [0] (.cells rfl rfl (.keep .int (.keep .int (.keep .int (.keep .int (.keep .int (.keep .str (.keep .str (.keep .str .nil)))))))) .nil) rfl (.cons rfl (.ptr rfl) (.cons rfl (.dat .bool) (.cons rfl (.dat .bool) .nil))))⟩
         ·have h34 := iteBT ey7 hb
          refine rl.run 2 rfl ?_
          obtain ⟨v8, e8, h35⟩ := bindS h34
          refine rl.call rfl rfl rfl (CallW.val (r' := .bool v8) ok_spec_l01In (law_spec_l01In e8) (.cons .int (.cons .int (.cons .int .nil))) .refl ?_)
          cases hb : v8
          ·have h36 := iteBF h35 hb
           refine rl.run 11 rfl (rl.done ?_)
           cases h36
           exact ⟨_, rfl, (Gh.ren0 [0] (.cells rfl rfl (.keep .int (.keep .int (.keep .int (.keep .int (.keep .int (.keep .str (.keep .str (.keep .str .nil)))))))) .nil) rfl (.cons rfl (.ptr rfl) (.cons rfl (.dat .bool) (.cons rfl (.dat .bool) .nil))))⟩
          ·have h37 := iteBT h35 hb
           refine rl.run 11 rfl (rl.done ?_)
           cases h37
           exact ⟨_, rfl, (Gh.ren0 [0] (.cells rfl rfl (.keep .int (.keep .int (.keep .int (.keep .int (.keep .int (.keep .str (.keep .str (.keep .str .nil)))))))) .nil) rfl (.cons rfl (.ptr rfl) (.cons rfl (.dat .bool) (.cons rfl (.dat .bool) .nil))))⟩
        ·intro y hC
         subst hC
         cases hb : y7
         ·have h38 := iteBF h30 hb
          refine RW.cond_f rfl (RW.skip (RW.seq (RW.seq ?_)))
          obtain ⟨y9, ey9, h39⟩ := bindS h38
          refine RW.cutq (σ := Bool) (fun y9 => [(1, .ptr 0 0), (109, .bool y9)]) (fun y9 => [some ⟨[.j x0.Kind, .j x0.Valid, .j x0.Uid, .j x0.Next, .j x0.Flags, .str x0.User, .str x0.Name, .str x0.Text], 0⟩]) (fun y => y9 = y) (fun _ _ _ _ g h => RW.gh g h) ?_ ?_
          ·refine RW.reg ?_
           refine rl.run 2 rfl ?_
           cases hb : y5
           ·have h40 := iteBF ey9 hb
            refine rl.run 11 rfl ?_
            refine rl.gen rfl rfl fun b hb => ?_
            cases b
            ·have h41 := iteBF h40 hb
             refine rl.run 2 rfl (rl.done ?_)
             cases h41
             exact ⟨_, rfl, (Gh.ren0 [0] (.cells rfl rfl (.keep .int (.keep .int (.keep .int (.keep .int (.keep .int (.keep .str (.keep .str (.keep .str .nil)))))))) .nil) rfl (.cons rfl (.ptr rfl) (.cons rfl (.dat .bool) .nil)))⟩
            ·have h42 := iteBT h40 hb
             refine rl.run 2 rfl (rl.done ?_)
             cases h42
             exact ⟨_, rfl, (Gh.ren0 [0] (.cells rfl rfl (.keep .int (.keep .int (.keep .int (.keep .int (.keep .int (.keep .str (.keep .str (.keep .str .nil)))))))) .nil) rfl (.cons rfl (.ptr rfl) (.cons rfl (.dat .bool) .nil)))⟩
           ·have h43 := iteBT ey9 hb
            refine rl.run 2 rfl ?_
            obtain ⟨v10, e10, h44⟩ := bindS h43
            refine rl.call rfl rfl rfl (CallW.val (r' := .bool v10) ok_spec_l01In (law_spec_l01In e10) (.cons .int (.cons .int (.cons .int .nil))) .refl ?_)
            cases hb : v10
            ·have h45 := iteBF h44 hb
             refine rl.run 11 rfl (rl.done ?_)
             cases h45
             exact ⟨_, rfl, (Gh.ren0 [0] (.cells rfl rfl (.keep .int (.keep .int (.keep .int (.keep .int (.keep .int (.keep .str (.keep .str (.keep .str .nil)))))))) .nil) rfl (.cons rfl (.ptr rfl) (.cons rfl (.dat .bool) .nil)))⟩
            ·have h46 := iteBT h44 hb
             refine rl.run 11 rfl (rl.done ?_)
             cases h46
             exact ⟨_, rfl, (Gh.ren0 [0] (.cells rfl rfl (.keep .int (.keep .int (.keep .int (.keep .int (.keep .int (.keep .str (.keep .str (.keep .str .nil)))))))) .nil) rfl (.cons rfl (.ptr rfl) (.cons rfl (.dat .bool) .nil)))⟩
          ·intro y hC
           subst hC
           cases hb : y9
           ·have h47 := iteBF h39 hb
            refine RW.cond_f rfl (RW.skip (RW.seq (RW.sreg (rl.run 2 rfl ?_))))
            refine rl.gen rfl rfl fun b hb => ?_
            cases b
            ·have h48 := iteBF h47 hb
             refine rl.done (RW.cond_f rfl (RW.skip (RW.sreg (rl.run 4 rfl (rl.done (RW.ret ?_))))))
             cases h48
             exact RRet.mk rfl .bool (by first | decide | simp)
            ·have h49 := iteBT h47 hb
             refine rl.done (RW.cond_t rfl (RW.sreg (rl.run 5 rfl (rl.done (RW.ret ?_)))))
             cases h49
             exact RRet.mk rfl .bool (by first | decide | simp)
           ·have h50 := iteBT h39 hb
            refine RW.cond_t rfl (RW.sreg (rl.run 1 rfl (rl.done (RW.ret ?_))))
            cases h50
            exact RRet.mk rfl .bool (by first | decide | simp)
         ·have h51 := iteBT h30 hb
          refine RW.cond_t rfl (RW.sreg (rl.run 1 rfl (rl.done (RW.ret ?_))))
          cases h51
          exact RRet.mk rfl .bool (by first | decide | simp)
       ·have h52 := iteBT h22 hb
        refine RW.cond_t rfl (RW.sreg (rl.run 1 rfl (rl.done (RW.ret ?_))))
        cases h52
        exact RRet.mk rfl .bool (by first | decide | simp)
   ·have h53 := iteBT h8 hb
    refine rl.run 1 rfl (rl.done (RW.seq ?_))
    obtain ⟨y11, ey11, h54⟩ := bindS h53
    refine RW.cutq (σ := Bool) (fun y11 => [(1, .ptr 0 0), (3, .bool true), (4, .bool y11)]) (fun y11 => [some ⟨[.j x0.Kind, .j x0.Valid, .j x0.Uid, .j x0.Next, .j x0.Flags, .str x0.User, .str x0.Name, .str x0.Text], 0⟩]) (fun y => y11 = y) (fun _ _ _ _ g h => RW.gh g h) ?_ ?_
    ·refine RW.reg ?_
     refine rl.run 2 rfl ?_
     refine rl.gen rfl rfl fun b hb => ?_
     cases b
     ·have h55 := iteBF ey11 hb
      refine rl.run 3 rfl ?_
      refine rl.gen rfl rfl fun b hb => ?_
      cases b
      ·have h56 := iteBF h55 hb
       refine rl.run 4 rfl ?_
       refine rl.gen rfl rfl fun b hb => ?_
       cases b
       ·have h57 := iteBF h56 hb
        refine rl.run 2 rfl (rl.done ?_)
        cases h57
        exact ⟨_, rfl, (Gh.ren0 [0] (.cells rfl rfl (.keep .int (.keep .int (.keep .int (.keep .int (.keep .int (.keep .str (.keep .str (.keep .str .nil)))))))) .nil) rfl (.cons rfl (.ptr rfl) (.cons rfl (.dat .bool) (.cons rfl (.dat .bool) .nil))))⟩
       ·have h58 := iteBT h56 hb
        refine rl.run 2 rfl (rl.done ?_)
        cases h58
        exact ⟨_, rfl, (Gh.ren0 [0] (.cells rfl rfl (.keep .int (.keep .int (.keep .int (.keep .int (.keep .int (.keep .str (.keep .str (.keep .str .nil)))))))) .nil) rfl (.cons rfl (.ptr rfl) (.cons rfl (.dat .bool) (.cons rfl (.dat .bool) .nil))))⟩
      ·have h59 := iteBT h55 hb
       refine rl.run 7 rfl (rl.done ?_)
       cases h59
       exact ⟨_, rfl, (Gh.ren0 [0] (.cells rfl rfl (.keep .int (.keep .int (.keep .int (.keep .int (.keep .int (.keep .str (.keep .str (.keep .str .nil)))))))) .nil) rfl (.cons rfl (.ptr rfl) (.cons rfl (.dat .bool) (.cons rfl (.dat .bool) .nil))))⟩
     ·have h60 := iteBT ey11 hb
      refine rl.run 11 rfl (rl.done ?_)
      cases h60
      exact ⟨_, rfl, (Gh.ren0 [0] (.cells rfl rfl (.keep .int (.keep .int (.keep .int (.keep .int (.keep .int (.keep .str (.keep .str (.keep .str .nil)))))))) .nil) rfl (.cons rfl (.ptr rfl) (.cons rfl (.dat .bool) (.cons rfl (.dat .bool) .nil))))⟩
    ·intro y hC
     subst hC
     refine RW.seq ?_
     obtain ⟨y12, ey12, h61⟩ := bindS h54
     refine RW.cutq (σ := Bool) (fun y12 => [(1, .ptr 0 0), (3, .bool true), (4, .bool y11), (5, .bool y12)]) (fun y12 => [some ⟨[.j x0.Kind, .j x0.Valid, .j x0.Uid, .j x0.Next, .j x0.Flags, .str x0.User, .str x0.Name, .str x0.Text], 0⟩]) (fun y => y12 = y) (fun _ _ _ _ g h => RW.gh g h) ?_ ?_
     ·refine RW.reg ?_
      refine rl.run 2 rfl ?_
      refine rl.gen rfl rfl fun b hb => ?_
      cases b
      ·have h62 := iteBF ey12 hb
       refine rl.run 3 rfl ?_
       refine rl.gen rfl rfl fun b hb => ?_
       cases b
       ·have h63 := iteBF h62 hb
        refine rl.run 2 rfl (rl.done ?_)
        cases h63
        exact ⟨_, rfl, (Gh.ren0 [0] (.cells rfl rfl (.keep .int (.keep .int (.keep .int (.keep .int (.keep .int (.keep .str (.keep .str (.keep .str .nil)))))))) .nil) rfl (.cons rfl (.ptr rfl) (.cons rfl (.dat .bool) (.cons rfl (.dat .bool) (.cons rfl (.dat .bool) .nil)))))⟩
       ·have h64 := iteBT h62 hb
        refine rl.run 2 rfl (rl.done ?_)
        cases h64
        exact ⟨_, rfl, (Gh.ren0 [0] (.cells rfl rfl (.keep .int (.keep .int (.keep .int (.keep .int (.keep .int (.keep .str (.keep .str (.keep .str .nil)))))))) .nil) rfl (.cons rfl (.ptr rfl) (.cons rfl (.dat .bool) (.cons rfl (.dat .bool) (.cons rfl (.dat .bool) .nil)))))⟩
      ·have h65 := iteBT ey12 hb
       refine rl.run 6 rfl (rl.done ?_)
       cases h65
       exact ⟨_, rfl, (Gh.ren0 [0] (.cells rfl rfl (.keep .int (.keep .int (.keep .int (.keep .int (.keep .int (.keep .str (.keep .str (.keep .str .nil)))))))) .nil) rfl (.cons rfl (.ptr rfl) (.cons rfl (.dat .bool) (.cons rfl (.dat .bool) (.cons rfl (.dat .bool) .nil)))))⟩
     ·intro y hC
      subst hC
      refine RW.seq (RW.seq ?_)
      obtain ⟨y13, ey13, h66⟩ := bindS h61
      refine RW.cutq (σ := Bool) (fun y13 => [(1, .ptr 0 0), (4, .bool y11), (5, .bool y12), (77, .bool y13)]) (fun y13 => [some ⟨[.j x0.Kind, .j x0.Valid, .j x0.Uid, .j x0.Next, .j x0.Flags, .str x0.User, .str x0.Name, .str x0.Text], 0⟩]) (fun y => y13 = y) (fun _ _ _ _ g h => RW.gh g h) ?_ ?_
      ·refine RW.reg ?_
       refine rl.run 4 rfl ?_
       obtain ⟨v14, e14, h67⟩ := bindS ey13
       refine rl.call rfl rfl rfl (CallW.val (r' := .bool v14) ok_spec_WordOk (law_spec_WordOk e14) (.cons .str .nil) .refl ?_)
       cases hb : v14
       ·have h68 := iteBF h67 hb
        refine rl.run 33 rfl (rl.done ?_)
        cases h68
        exact ⟨_, rfl, (Gh.ren0 [0] (.cells rfl rfl (.keep .int (.keep .int (.keep .int (.keep .int (.keep .int (.keep .str (.keep .str (.keep .str .nil)))))))) .nil) rfl (.cons rfl (.ptr rfl) (.cons rfl (.dat .bool) (.cons rfl (.dat .bool) (.cons rfl (.dat .bool) .nil)))))⟩
       ·have h69 := iteBT h67 hb
        refine rl.run 4 rfl ?_
        obtain ⟨v15, e15, h70⟩ := bindS h69
        refine rl.call rfl rfl rfl (CallW.val (r' := .bool v15) ok_spec_WordOk (law_spec_WordOk e15) (.cons .str .nil) .refl ?_)
        cases hb : v15
        ·have h71 := iteBF h70 hb
         refine rl.run 28 rfl (rl.done ?_)
         cases h71
         exact ⟨_, rfl, (Gh.ren0 [0] (.cells rfl rfl (.keep .int (.keep .int (.keep .int (.keep .int (.keep .int (.keep .str (.keep .str (.keep .str .nil)))))))) .nil) rfl (.cons rfl (.ptr rfl) (.cons rfl (.dat .bool) (.cons rfl (.dat .bool) (.cons rfl (.dat .bool) .nil)))))⟩
        ·have h72 := iteBT h70 hb
         refine rl.run 5 rfl ?_
         obtain ⟨v16, e16, h73⟩ := bindS h72
         refine rl.call rfl rfl rfl (CallW.val (r' := .bool v16) ok_spec_l01In (law_spec_l01In e16) (.cons .int (.cons .int (.cons .int .nil))) .refl ?_)
         cases hb : v16
         ·have h74 := iteBF h73 hb
          refine rl.run 22 rfl (rl.done ?_)
          cases h74
          exact ⟨_, rfl, (Gh.ren0 [0] (.cells rfl rfl (.keep .int (.keep .int (.keep .int (.keep .int (.keep .int (.keep .str (.keep .str (.keep .str .nil)))))))) .nil) rfl (.cons rfl (.ptr rfl) (.cons rfl (.dat .bool) (.cons rfl (.dat .bool) (.cons rfl (.dat .bool) .nil)))))⟩
         ·have h75 := iteBT h73 hb
          refine rl.run 22 rfl (rl.done ?_)
          cases h75
          exact ⟨_, rfl, (Gh.ren0 [0] (.cells rfl rfl (.keep .int (.keep .int (.keep .int (.keep .int (.keep .int (.keep .str (.keep .str (.keep .str .nil)))))))) .nil) rfl (.cons rfl (.ptr rfl) (.cons rfl (.dat .bool) (.cons rfl (.dat .bool) (.cons rfl (.dat .bool) .nil)))))⟩
      ·intro y hC
       subst hC
       cases hb : y13
       ·have h76 := iteBF h66 hb
        refine RW.cond_f rfl (RW.skip (RW.seq (RW.seq ?_)))
        obtain ⟨y17, ey17, h77⟩ := bindS h76
        refine RW.cutq (σ := Bool) (fun y17 => [(1, .ptr 0 0), (5, .bool y12), (93, .bool y17)]) (fun y17 => [some ⟨[.j x0.Kind, .j x0.Valid, .j x0.Uid, .j x0.Next, .j x0.Flags, .str x0.User, .str x0.Name, .str x0.Text], 0⟩]) (fun y => y17 = y) (fun _ _ _ _ g h => RW.gh g h) ?_ ?_
        ·refine RW.reg ?_
         refine rl.run 2 rfl ?_
         cases hb : y11
         ·have h78 := iteBF ey17 hb
          refine rl.run 11 rfl ?_
          refine rl.gen rfl rfl fun b hb => ?_
          cases b
          ·have h79 := iteBF h78 hb
           refine rl.run 2 rfl (rl.done ?_)
           cases h79
           exact ⟨_, rfl, (Gh.ren0 [0] (.cells rfl rfl (.keep .int (.keep .int (.keep .int (.keep .int (.keep .int (.keep .str (.keep .str (.keep .str .nil)))))))) .nil) rfl (.cons rfl (.ptr rfl) (.cons rfl (.dat .bool) (.cons rfl (.dat .bool) .nil))))⟩
          ·have h80 := iteBT h78 hb
           refine rl.run 2 rfl (rl.done ?_)
           cases h80
           exact ⟨_, rfl, (Gh.ren0 [0] (.cells rfl rfl (.keep .int (.keep .int (.keep .int (.keep .int (.keep .int (.keep .str (.keep .str (.keep .str .nil)))))))) .nil) rfl (.cons rfl (.ptr rfl) (.cons rfl (.dat .bool) (.cons rfl (.dat .bool) .nil))))⟩
         ·have h81 := iteBT ey17 hb
          refine rl.run 2 rfl ?_
          obtain ⟨v18, e18, h82⟩ := bindS h81
          refine rl.call rfl rfl rfl (CallW.val (r' := .bool v18) ok_spec_l01In (law_spec_l01In e18) (.cons .int (.cons .int (.cons .int .nil))) .refl ?_)
          cases hb : v18
          ·have h83 := iteBF h82 hb
           refine rl.run 11 rfl (rl.done ?_)
           cases h83
           exact ⟨_, rfl, (Gh.ren0 [0] (.cells rfl rfl (.keep .int (.keep .int (.keep .int (.keep .int (.keep .int (.keep .str (.keep .str (.keep .str .nil)))))))) .nil) rfl (.cons rfl (.ptr rfl) (.cons rfl (.dat .bool) (.cons rfl (.dat .bool) .nil))))⟩
          ·have h84 := iteBT h82 hb
           refine rl.run 11 rfl (rl.done ?_)
           cases h84
           exact ⟨_, rfl, (Gh.ren0 [0] (.cells rfl rfl (.keep .int (.keep .int (.keep .int (.keep .int (.keep .int (.keep .str (.keep .str (.keep .str .nil)))))))) .nil) rfl (.cons rfl (.ptr rfl) (.cons rfl (.dat .bool) (.cons rfl (.dat .bool) .nil))))⟩
        ·intro y hC
         subst hC
         cases hb : y17
         ·have h85 := iteBF h77 hb
          refine RW.cond_f rfl (RW.skip (RW.seq (RW.seq ?_)))
          obtain ⟨y19, ey19, h86⟩ := bindS h85
          refine RW.cutq (σ := Bool) (fun y19 => [(1, .ptr 0 0), (109, .bool y19)]) (fun y19 => [some ⟨[.j x0.Kind, .j x0.Valid, .j x0.Uid, .j x0.Next, .j x0.Flags, .str x0.User, .str x0.Name, .str x0.Text], 0⟩]) (fun y => y19 = y) (fun _ _ _ _ g h => RW.gh g h) ?_ ?_
          ·refine RW.reg ?_
           refine rl.run 2 rfl ?_
           cases hb : y12
           ·have h87 := iteBF ey19 hb
            refine rl.run 11 rfl ?_
            refine rl.gen rfl rfl fun b hb => ?_
            cases b
            ·have h88 := iteBF h87 hb
             refine rl.run 2 rfl (rl.done ?_)
             cases h88
             exact ⟨_, rfl, (Gh.ren0 [0] (.cells rfl rfl (.keep .int (.keep .int (.keep .int (.keep .int (.keep .int (.keep .str (.keep .str (.keep .str .nil)))))))) .nil) rfl (.cons rfl (.ptr rfl) (.cons rfl (.dat .bool) .nil)))⟩
            ·have h89 := iteBT h87 hb
             refine rl.run 2 rfl (rl.done ?_)
             cases h89
             exact ⟨_, rfl, (Gh.ren0 [0] (.cells rfl rfl (.keep .int (.keep .int (.keep .int (.keep .int (.keep .int (.keep .str (.keep .str (.keep .str .nil)))))))) .nil) rfl (.cons rfl (.ptr rfl) (.cons rfl (.dat .bool) .nil)))⟩
           ·have h90 := iteBT ey19 hb
            refine rl.run 2 rfl ?_
            obtain ⟨v20, e20, h91⟩ := bindS h90
            refine rl.call rfl rfl rfl (CallW.val (r' := .bool v20) ok_spec_l01In (law_spec_l01In e20) (.cons .int (.cons .int (.cons .int .nil))) .refl ?_)
            cases hb : v20
            ·have h92 := iteBF h91 hb
             refine rl.run 11 rfl (rl.done ?_)
             cases h92
             exact ⟨_, rfl, (Gh.ren0 [0] (.cells rfl rfl (.keep .int (.keep .int (.keep .int (.keep .int (.keep .int (.keep .str (.keep .str (.keep .str .nil)))))))) .nil) rfl (.cons rfl (.ptr rfl) (.cons rfl (.dat .bool) .nil)))⟩
            ·have h93 := iteBT h91 hb
             refine rl.run 11 rfl (rl.done ?_)
             cases h93
             exact ⟨_, rfl, (Gh.ren0 [0] (.cells rfl rfl (.keep .int (.keep .int (.keep .int (.keep .int (.keep .int (.keep .str (.keep .str (.keep .str .nil)))))))) .nil) rfl (.cons rfl (.ptr rfl) (.cons rfl (.dat .bool) .nil)))⟩
          ·intro y hC
           subst hC
           cases hb : y19
           ·have h94 := iteBF h86 hb
            refine RW.cond_f rfl (RW.skip (RW.seq (RW.sreg (rl.run 2 rfl ?_))))
            refine rl.gen rfl rfl fun b hb => ?_
            cases b
            ·have h95 := iteBF h94 hb
             refine rl.done (RW.cond_f rfl (RW.skip (RW.sreg (rl.run 4 rfl (rl.done (RW.ret ?_))))))
             cases h95
             exact RRet.mk rfl .bool (by first | decide | simp)
            ·have h96 := iteBT h94 hb
             refine rl.done (RW.cond_t rfl (RW.sreg (rl.run 5 rfl (rl.done (RW.ret ?_)))))
             cases h96
             exact RRet.mk rfl .bool (by first | decide | simp)
           ·have h97 := iteBT h86 hb
            refine RW.cond_t rfl (RW.sreg (rl.run 1 rfl (rl.done (RW.ret ?_))))
            cases h97
            exact RRet.mk rfl .bool (by first | decide | simp)
         ·have h98 := iteBT h77 hb
          refine RW.cond_t rfl (RW.sreg (rl.run 1 rfl (rl.done (RW.ret ?_))))
          cases h98
          exact RRet.mk rfl .bool (by first | decide | simp)
       ·have h99 := iteBT h66 hb
        refine RW.cond_t rfl (RW.sreg (rl.run 1 rfl (rl.done (RW.ret ?_))))
        cases h99
        exact RRet.mk rfl .bool (by first | decide | simp)
  ·have h100 := iteBT h1 hb
   refine RW.cond_t rfl (RW.sreg (rl.run 1 rfl (rl.done (RW.ret ?_))))
   cases h100
   exact RRet.mk rfl .bool (by first | decide | simp)
set_option maxHeartbeats 2000000 in
theorem law_spec_ItemsOk {x0 : List TItem} {r : Bool} (hF : F_spec_ItemsOk x0 = some r) : PCalls Try.prog 35 [L_TItem x0] (.bool r) := by
 refine PCalls.of_r k_spec_ItemsOk rfl ?_
 unfold F_spec_ItemsOk at hF
 refine RW.sreg (rl.run 1 rfl (rl.done (RW.seq (RW.sreg (rl.run 1 rfl (rl.done ?_))))))
 obtain ⟨y16, ey16, h2⟩ := bindS hF
 refine RW.cutq (σ := Unit) (fun y2 => [(0, L_TItem x0)]) (fun y2 => []) (fun y => y16 = .inr y) (fun _ _ _ _ g h => RW.gh g h) ?_ ?_
 ·refine RW.blk ?_
  refine RW.iter (σ := Int) ey16 (fun s1 => [(0, L_TItem x0), (3, .j s1)]) (fun s1 => []) (Gh.ren0 [] .nil rfl (.cons rfl (.dat (ek_TItem.rlst)) (.cons rfl (.dat .int) .nil))) (fun s1 B o hS1 hB1 hE1 => ?_)
  unfold S_spec_ItemsOk_1 at hS1
  refine RW.seq (RW.sreg (rl.run 3 rfl ?_))
  refine rl.gen rfl rfl fun b hb => ?_
  cases b
  ·have h3 := iteBF hS1 hb
   refine rl.done (RW.cond_f rfl (RW.exit (blkA_eq ?_)))
   cases h3
   exact ⟨_, (hE1 _ rfl).symm, (Gh.ren0 [] .nil rfl (.cons rfl (.dat (ek_TItem.rlst)) .nil))⟩
  ·have h4 := iteBT hS1 hb
   refine rl.done (RW.cond_t rfl (RW.skip (RW.seq (RW.blk (RW.seq (RW.seq ?_))))))
   obtain ⟨y3, ey3, h5⟩ := bindS h4
   refine RW.cutq (σ := Bool) (fun y3 => [(0, L_TItem x0), (3, .j s1), (26, .bool y3)]) (fun y3 => []) (fun y => y3 = y) (fun _ _ _ _ g h => RW.gh g h) ?_ ?_
   ·refine RW.reg ?_
    refine rl.run 2 rfl ?_
    obtain ⟨v4, e4, h6⟩ := bindS ey3
    refine rl.op (x_ia_lst (enc := enc_TItem) (o := false) rfl rfl rfl e4) ?_
    refine rl.run 1 rfl ?_
    refine rl.op (x_ld_el (off' := 0) ek_TItem rfl e4 rfl rfl rfl) ?_
    obtain ⟨v5, e5, h7⟩ := bindS h6
    refine rl.call rfl rfl rfl (CallW.val (r' := .bool v5) ok_spec_l01In (law_spec_l01In e5) (.cons .int (.cons .int (.cons .int .nil))) .refl ?_)
    cases hb : v5
    ·have h8 := iteBF h7 hb
     refine rl.run 10 rfl (rl.done ?_)
     cases h8
     exact ⟨_, rfl, (Gh.ren0 [] .nil rfl (.cons rfl (.dat (ek_TItem.rlst)) (.cons rfl (.dat .int) (.cons rfl (.dat .bool) .nil))))⟩
    ·have h9 := iteBT h7 hb
     refine rl.run 4 rfl ?_
     obtain ⟨v6, e6, h10⟩ := bindS h9
     refine rl.gop rfl (x_ia_lst (enc := enc_TItem) (o := false) rfl rfl rfl e6) ?_
     refine rl.run 1 rfl ?_
     refine rl.gop rfl (x_ld_ela (off' := 1) (vs := (enc_TRec false v6.Rec)) ek_TItem rfl e6 rfl rfl rfl) ?_
     obtain ⟨v7, e7, h11⟩ := bindS h10
     refine rl.call rfl rfl rfl (CallW.val (r' := .bool v7) ok_spec_RecOk (law_spec_RecOk e7) (.cons (.dat (.agg (ek_TRec.dat false _))) .nil) .refl ?_)
     cases hb : v7
     ·have h12 := iteBF h11 hb
      refine rl.run 2 rfl (rl.done ?_)
      cases h12
      exact ⟨_, rfl, (Gh.ren0 [] .nil rfl (.cons rfl (.dat (ek_TItem.rlst)) (.cons rfl (.dat .int) (.cons rfl (.dat .bool) .nil))))⟩
     ·have h13 := iteBT h11 hb
      refine rl.run 2 rfl (rl.done ?_)
      cases h13
      exact ⟨_, rfl, (Gh.ren0 [] .nil rfl (.cons rfl (.dat (ek_TItem.rlst)) (.cons rfl (.dat .int) (.cons rfl (.dat .bool) .nil))))⟩
   ·intro y hC
    subst hC
    cases hb : y3
    ·have h14 := iteBF h5 hb
     refine RW.cond_f rfl (RW.skip (RW.sreg (rl.run 1 rfl (rl.done ?_))))
     obtain ⟨y15, ey15, h16⟩ := bindS h14
     refine RW.cutq (σ := Unit) (fun y9 => [(0, L_TItem x0), (3, .j s1)]) (fun y9 => []) (fun y => y15 = .inr y) (fun _ _ _ _ g h => RW.gh g h) ?_ ?_
     ·refine RW.blk ?_
      refine RW.iter (σ := Int) ey15 (fun s8 => [(0, L_TItem x0), (3, .j s1), (4, .j s8)]) (fun s8 => []) (Gh.ren0 [] .nil rfl (.cons rfl (.dat (ek_TItem.rlst)) (.cons rfl (.dat .int) (.cons rfl (.dat .int) .nil)))) (fun s8 B o hS15 hB15 hE15 => ?_)
      unfold S_spec_ItemsOk_2 at hS15
      refine RW.seq (RW.sreg (rl.run 2 rfl ?_))
      refine rl.gen rfl rfl fun b hb => ?_
      cases b
      ·have h17 := iteBF hS15 hb
       refine rl.done (RW.cond_f rfl (RW.exit (blkA_eq ?_)))
       cases h17
       exact ⟨_, (hE15 _ rfl).symm, (Gh.ren0 [] .nil rfl (.cons rfl (.dat (ek_TItem.rlst)) (.cons rfl (.dat .int) .nil)))⟩
      ·have h18 := iteBT hS15 hb
       refine rl.done (RW.cond_t rfl (RW.skip (RW.seq (RW.blk (RW.seq ?_)))))
       obtain ⟨y10, ey10, h19⟩ := bindS h18
       refine RW.cutq (σ := Bool) (fun y10 => [(0, L_TItem x0), (3, .j s1), (4, .j s8), (53, .bool y10)]) (fun y10 => []) (fun y => y10 = y) (fun _ _ _ _ g h => RW.gh g h) ?_ ?_
       ·refine RW.drw ?_
        refine rdraw.op rfl rfl (rdraw.op rfl rfl ?_)
        obtain ⟨v11, e11, h20⟩ := bindS ey10
        refine rdraw.op rfl (x_ia_lst (enc := enc_TItem) (o := false) rfl rfl rfl e11) ?_
        refine rdraw.op rfl rfl ?_
        refine rdraw.op rfl (x_ld_el (off' := 0) ek_TItem rfl e11 rfl rfl rfl) ?_
        refine rdraw.op rfl rfl (rdraw.op rfl rfl ?_)
        obtain ⟨v12, e12, h21⟩ := bindS h20
        refine rdraw.op rfl (x_ia_lst (enc := enc_TItem) (o := false) rfl rfl rfl e12) ?_
        refine rdraw.op rfl rfl ?_
        refine rdraw.op rfl (x_ld_el (off' := 0) ek_TItem rfl e12 rfl rfl rfl) ?_
        refine rdraw.gen rfl rfl fun b hb => ?_
        cases b
        ·have h22 := iteBF h21 hb
         refine rdraw.op rfl rfl (rdraw.off rfl (rdraw.off rfl (rdraw.off rfl (rdraw.off rfl (rdraw.off rfl (rdraw.off rfl (rdraw.off rfl (rdraw.off rfl (rdraw.off rfl (rdraw.op rfl rfl (rdraw.done ?_)))))))))))
         cases h22
         exact ⟨_, rfl, (Gh.ren0 [] .nil rfl (.cons rfl (.dat (ek_TItem.rlst)) (.cons rfl (.dat .int) (.cons rfl (.dat .int) (.cons rfl (.dat .bool) .nil)))))⟩
        ·have h23 := iteBT h21 hb
         refine rdraw.op rfl rfl (rdraw.op rfl rfl (rdraw.op rfl rfl ?_))
         obtain ⟨v13, e13, h24⟩ := bindS h23
         refine rdraw.op rfl (x_ia_lst (enc := enc_TItem) (o := false) rfl rfl rfl e13) ?_
         refine rdraw.op rfl (x_ld_ela (off' := 0) (vs := (enc_TItem false v13)) ek_TItem rfl e13 rfl rfl rfl) ?_
         refine rdraw.op rfl rfl (rdraw.op rfl rfl ?_)
         obtain ⟨v14, e14, h25⟩ := bindS h24
         refine rdraw.op rfl (x_ia_lst (enc := enc_TItem) (o := false) rfl rfl rfl e14) ?_
         refine rdraw.op rfl (x_ld_ela (off' := 0) (vs := (enc_TItem false v14)) ek_TItem rfl e14 rfl rfl rfl) ?_
         refine rdraw.gen rfl rfl fun b hb => ?_
         cases b
         ·have h26 := iteBF h25 hb
          refine rdraw.op rfl rfl (rdraw.done ?_)
          cases h26
          exact ⟨_, rfl, (Gh.ren0 [] .nil rfl (.cons rfl (.dat (ek_TItem.rlst)) (.cons rfl (.dat .int) (.cons rfl (.dat .int) (.cons rfl (.dat .bool) .nil)))))⟩
         ·have h27 := iteBT h25 hb
          refine rdraw.op rfl rfl (rdraw.done ?_)
          cases h27
          exact ⟨_, rfl, (Gh.ren0 [] .nil rfl (.cons rfl (.dat (ek_TItem.rlst)) (.cons rfl (.dat .int) (.cons rfl (.dat .int) (.cons rfl (.dat .bool) .nil)))))⟩
       ·intro y hC
        subst hC
        cases hb : y10
        ·have h28 := iteBF h19 hb
         refine RW.cond_f rfl (RW.skip (RW.reg (rl.run 3 rfl (rl.done ?_))))
         cases h28
         exact hB15 _ rfl _ _ (Gh.ren0 [] .nil rfl (.cons rfl (.dat (ek_TItem.rlst)) (.cons rfl (.dat .int) (.cons rfl (.dat .int) .nil))))
        ·have h29 := iteBT h19 hb
         refine RW.cond_t rfl (RW.sreg (rl.run 1 rfl (rl.done (RW.ret ?_))))
         cases h29
         have h30 := elimL h16 (hE15 _ rfl)
         cases h30
         have h31 := elimL h2 (hE1 _ rfl)
         cases h31
         exact RRet.mk rfl .bool (by first | decide | simp)
     ·intro y9 hC
      have h16 := elimR h16 hC
      refine RW.reg (rl.run 3 rfl (rl.done ?_))
      cases h16
      exact hB1 _ rfl _ _ (Gh.ren0 [] .nil rfl (.cons rfl (.dat (ek_TItem.rlst)) (.cons rfl (.dat .int) .nil)))
    ·have h32 := iteBT h5 hb
     refine RW.cond_t rfl (RW.sreg (rl.run 1 rfl (rl.done (RW.ret ?_))))
     cases h32
     have h33 := elimL h2 (hE1 _ rfl)
     cases h33
     exact RRet.mk rfl .bool (by first | decide | simp)
 ·intro y2 hC
  have h2 := elimR h2 hC
  refine RW.sreg (rl.run 4 rfl (rl.done (RW.ret ?_)))
  cases h2
  exact RRet.mk rfl .bool (by first | decide | simp)
set_option maxHeartbeats 2000000 in
theorem law_spec_l07Best {x0 : List TItem} {x1 : Int} {x2 : Int} {x3 : Int} {r : TItem × Bool} (hF : F_spec_l07Best x0 x1 x2 x3 = some r) : PCalls Try.prog 79 [L_TItem x0, .j x1, .j x2, .j x3] (.tup [.agg (enc_TItem true r.1), .bool r.2]) := by
 refine PCalls.of_r k_spec_l07Best rfl ?_
 unfold F_spec_l07Best at hF
 refine RW.sreg (rl.run 2 rfl (rl.done (RW.sreg (rl.run 3 rfl (rl.done (RW.sreg (rl.run 1 rfl (rl.done (RW.seq (RW.sreg (rl.run 1 rfl ?_)))))))))))
 refine rl.done ?_
 obtain ⟨y5, ey5, h2⟩ := bindS hF
 refine RW.cutq (σ := Bool × Int × Int × Int × Int × Int × Int × (List UInt8) × (List UInt8) × (List UInt8)) (fun y2 => [(8, .ptr 0 0), (10, .ptr 1 0), (11, .bool y2.1)]) (fun y2 => [some ⟨[.j 0, .j 0, .j 0, .j 0, .j 0, .j 0, .str [], .str [], .str []], 0⟩, some ⟨[.j y2.2.1, .j y2.2.2.1, .j y2.2.2.2.1, .j y2.2.2.2.2.1, .j y2.2.2.2.2.2.1, .j y2.2.2.2.2.2.2.1, .str y2.2.2.2.2.2.2.2.1, .str y2.2.2.2.2.2.2.2.2.1, .str y2.2.2.2.2.2.2.2.2.2], 0⟩]) (fun y => y5 = y) (fun _ _ _ _ g h => RW.gh g h) ?_ ?_
 ·refine RW.blk ?_
  refine RW.iter (σ := Bool × Int × Int × Int × Int × Int × Int × Int × (List UInt8) × (List UInt8) × (List UInt8)) ey5 (fun s1 => [(0, L_TItem x0), (1, .j x1), (2, .j x2), (3, .j x3), (8, .ptr 0 0), (10, .ptr 1 0), (11, .bool s1.1), (12, .j s1.2.1)]) (fun s1 => [some ⟨[.j 0, .j 0, .j 0, .j 0, .j 0, .j 0, .str [], .str [], .str []], 0⟩, some ⟨[.j s1.2.2.1, .j s1.2.2.2.1, .j s1.2.2.2.2.1, .j s1.2.2.2.2.2.1, .j s1.2.2.2.2.2.2.1, .j s1.2.2.2.2.2.2.2.1, .str s1.2.2.2.2.2.2.2.2.1, .str s1.2.2.2.2.2.2.2.2.2.1, .str s1.2.2.2.2.2.2.2.2.2.2], 0⟩]) (Gh.ren0 [0, 1] (.cells rfl rfl (.keep .int (.keep .int (.keep .int (.keep .int (.keep .int (.keep .int (.keep .str (.keep .str (.keep .str .nil))))))))) (.cells rfl rfl (.keep .int (.keep .int (.keep .int (.keep .int (.keep .int (.keep .int (.keep .str (.keep .str (.keep .str .nil))))))))) .nil)) rfl (.cons rfl (.dat (ek_TItem.rlst)) (.cons rfl (.dat .int) (.cons rfl (.dat .int) (.cons rfl (.dat .int) (.cons rfl (.ptr rfl) (.cons rfl (.ptr rfl) (.cons rfl (.dat .bool) (.cons rfl (.dat .int) .nil))))))))) (fun s1 B o hS1 hB1 hE1 => ?_)
  unfold S_spec_l07Best_1 at hS1
  refine RW.seq (RW.sreg (rl.run 3 rfl ?_))
  refine rl.gen rfl rfl fun b hb => ?_
  cases b
  ·have h3 := iteBF hS1 hb
   refine rl.done (RW.cond_f rfl (RW.exit (blkA_eq ?_)))
   cases h3
   exact ⟨_, (hE1 _ rfl).symm, (Gh.ren0 [0, 1] (.cells rfl rfl (.keep .int (.keep .int (.keep .int (.keep .int (.keep .int (.keep .int (.keep .str (.keep .str (.keep .str .nil))))))))) (.cells rfl rfl (.keep .int (.keep .int (.keep .int (.keep .int (.keep .int (.keep .int (.keep .str (.keep .str (.keep .str .nil))))))))) .nil)) rfl (.cons rfl (.ptr rfl) (.cons rfl (.ptr rfl) (.cons rfl (.dat .bool) .nil))))⟩
  ·have h4 := iteBT hS1 hb
   refine rl.done (RW.cond_t rfl (RW.skip (RW.seq (RW.blk (RW.sreg (rl.run 2 rfl ?_))))))
   obtain ⟨v3, e3, h5⟩ := bindS h4
   refine rl.op (x_ia_lst (enc := enc_TItem) (o := false) rfl rfl rfl e3) ?_
   refine rl.op (x_ld_ela (off' := 0) (vs := (enc_TItem false v3)) ek_TItem rfl e3 rfl rfl rfl) ?_
   refine rl.run 2 rfl (rl.done (RW.seq ?_))
   obtain ⟨y4, ey4, h6⟩ := bindS h5
   refine RW.cutq (σ := Bool) (fun y4 => [(0, L_TItem x0), (1, .j x1), (2, .j x2), (3, .j x3), (8, .ptr 0 0), (10, .ptr 1 0), (11, .bool s1.1), (12, .j s1.2.1), (13, .ptr 2 0), (54, .bool y4)]) (fun y4 => [some ⟨[.j 0, .j 0, .j 0, .j 0, .j 0, .j 0, .str [], .str [], .str []], 0⟩, some ⟨[.j s1.2.2.1, .j s1.2.2.2.1, .j s1.2.2.2.2.1, .j s1.2.2.2.2.2.1, .j s1.2.2.2.2.2.2.1, .j s1.2.2.2.2.2.2.2.1, .str s1.2.2.2.2.2.2.2.2.1, .str s1.2.2.2.2.2.2.2.2.2.1, .str s1.2.2.2.2.2.2.2.2.2.2], 0⟩, some ⟨[.j v3.Seq, .j v3.Rec.Kind, .j v3.Rec.Valid, .j v3.Rec.Uid, .j v3.Rec.Next, .j v3.Rec.Flags, .str v3.Rec.User, .str v3.Rec.Name, .str v3.Rec.Text], 0⟩]) (fun y => y4 = y) (fun _ _ _ _ g h => RW.gh g h) ?_ ?_
   ·refine RW.reg ?_
    refine rl.run 4 rfl ?_
    refine rl.gen rfl rfl fun b hb => ?_
    cases b
    ·have h7 := iteBF ey4 hb
     refine rl.run 25 rfl (rl.done ?_)
     cases h7
     exact ⟨_, rfl, (Gh.ren0 [0, 1, 2] (.cells rfl rfl (.keep .int (.keep .int (.keep .int (.keep .int (.keep .int (.keep .int (.keep .str (.keep .str (.keep .str .nil))))))))) (.cells rfl rfl (.keep .int (.keep .int (.keep .int (.keep .int (.keep .int (.keep .int (.keep .str (.keep .str (.keep .str .nil))))))))) (.cells rfl rfl (.keep .int (.keep .int (.keep .int (.keep .int (.keep .int (.keep .int (.keep .str (.keep .str (.keep .str .nil))))))))) .nil))) rfl (.cons rfl (.dat (ek_TItem.rlst)) (.cons rfl (.dat .int) (.cons rfl (.dat .int) (.cons rfl (.dat .int) (.cons rfl (.ptr rfl) (.cons rfl (.ptr rfl) (.cons rfl (.dat .bool) (.cons rfl (.dat .int) (.cons rfl (.ptr rfl) (.cons rfl (.dat .bool) .nil)))))))))))⟩
    ·have h8 := iteBT ey4 hb
     refine rl.run 5 rfl ?_
     refine rl.gen rfl rfl fun b hb => ?_
     cases b
     ·have h9 := iteBF h8 hb
      refine rl.run 19 rfl (rl.done ?_)
      cases h9
      exact ⟨_, rfl, (Gh.ren0 [0, 1, 2] (.cells rfl rfl (.keep .int (.keep .int (.keep .int (.keep .int (.keep .int (.keep .int (.keep .str (.keep .str (.keep .str .nil))))))))) (.cells rfl rfl (.keep .int (.keep .int (.keep .int (.keep .int (.keep .int (.keep .int (.keep .str (.keep .str (.keep .str .nil))))))))) (.cells rfl rfl (.keep .int (.keep .int (.keep .int (.keep .int (.keep .int (.keep .int (.keep .str (.keep .str (.keep .str .nil))))))))) .nil))) rfl (.cons rfl (.dat (ek_TItem.rlst)) (.cons rfl (.dat .int) (.cons rfl (.dat .int) (.cons rfl (.dat .int) (.cons rfl (.ptr rfl) (.cons rfl (.ptr rfl) (.cons rfl (.dat .bool) (.cons rfl (.dat .int) (.cons rfl (.ptr rfl) (.cons rfl (.dat .bool) .nil)))))))))))⟩
     ·have h10 := iteBT h8 hb
      refine rl.run 6 rfl ?_
      refine rl.gen rfl rfl fun b hb => ?_
      cases b
      ·have h11 := iteBF h10 hb
       refine rl.run 12 rfl (rl.done ?_)
       cases h11
       exact ⟨_, rfl, (Gh.ren0 [0, 1, 2] (.cells rfl rfl (.keep .int (.keep .int (.keep .int (.keep .int (.keep .int (.keep .int (.keep .str (.keep .str (.keep .str .nil))))))))) (.cells rfl rfl (.keep .int (.keep .int (.keep .int (.keep .int (.keep .int (.keep .int (.keep .str (.keep .str (.keep .str .nil))))))))) (.cells rfl rfl (.keep .int (.keep .int (.keep .int (.keep .int (.keep .int (.keep .int (.keep .str (.keep .str (.keep .str .nil))))))))) .nil))) rfl (.cons rfl (.dat (ek_TItem.rlst)) (.cons rfl (.dat .int) (.cons rfl (.dat .int) (.cons rfl (.dat .int) (.cons rfl (.ptr rfl) (.cons rfl (.ptr rfl) (.cons rfl (.dat .bool) (.cons rfl (.dat .int) (.cons rfl (.ptr rfl) (.cons rfl (.dat .bool) .nil)))))))))))⟩
      ·have h12 := iteBT h10 hb
       refine rl.run 5 rfl ?_
       cases hb : (!s1.1)
       ·have h13 := iteBF h12 hb
        refine rl.run 4 rfl ?_
        refine rl.gen rfl rfl fun b hb => ?_
        cases b
        ·have h14 := iteBF h13 hb
         refine rl.run 2 rfl (rl.done ?_)
         cases h14
         exact ⟨_, rfl, (Gh.ren0 [0, 1, 2] (.cells rfl rfl (.keep .int (.keep .int (.keep .int (.keep .int (.keep .int (.keep .int (.keep .str (.keep .str (.keep .str .nil))))))))) (.cells rfl rfl (.keep .int (.keep .int (.keep .int (.keep .int (.keep .int (.keep .int (.keep .str (.keep .str (.keep .str .nil))))))))) (.cells rfl rfl (.keep .int (.keep .int (.keep .int (.keep .int (.keep .int (.keep .int (.keep .str (.keep .str (.keep .str .nil))))))))) .nil))) rfl (.cons rfl (.dat (ek_TItem.rlst)) (.cons rfl (.dat .int) (.cons rfl (.dat .int) (.cons rfl (.dat .int) (.cons rfl (.ptr rfl) (.cons rfl (.ptr rfl) (.cons rfl (.dat .bool) (.cons rfl (.dat .int) (.cons rfl (.ptr rfl) (.cons rfl (.dat .bool) .nil)))))))))))⟩
        ·have h15 := iteBT h13 hb
         refine rl.run 2 rfl (rl.done ?_)
         cases h15
         exact ⟨_, rfl, (Gh.ren0 [0, 1, 2] (.cells rfl rfl (.keep .int (.keep .int (.keep .int (.keep .int (.keep .int (.keep .int (.keep .str (.keep .str (.keep .str .nil))))))))) (.cells rfl rfl (.keep .int (.keep .int (.keep .int (.keep .int (.keep .int (.keep .int (.keep .str (.keep .str (.keep .str .nil))))))))) (.cells rfl rfl (.keep .int (.keep .int (.keep .int (.keep .int (.keep .int (.keep .int (.keep .str (.keep .str (.keep .str .nil))))))))) .nil))) rfl (.cons rfl (.dat (ek_TItem.rlst)) (.cons rfl (.dat .int) (.cons rfl (.dat .int) (.cons rfl (.dat .int) (.cons rfl (.ptr rfl) (.cons rfl (.ptr rfl) (.cons rfl (.dat .bool) (.cons rfl (.dat .int) (.cons rfl (.ptr rfl) (.cons rfl (.dat .bool) .nil)))))))))))⟩
       ·have h16 := iteBT h12 hb
        refine rl.run 7 rfl (rl.done ?_)
        cases h16
        exact ⟨_, rfl, (Gh.ren0 [0, 1, 2] (.cells rfl rfl (.keep .int (.keep .int (.keep .int (.keep .int (.keep .int (.keep .int (.keep .str (.keep .str (.keep .str .nil))))))))) (.cells rfl rfl (.keep .int (.keep .int (.keep .int (.keep .int (.keep .int (.keep .int (.keep .str (.keep .str (.keep .str .nil))))))))) (.cells rfl rfl (.keep .int (.keep .int (.keep .int (.keep .int (.keep .int (.keep .int (.keep .str (.keep .str (.keep .str .nil))))))))) .nil))) rfl (.cons rfl (.dat (ek_TItem.rlst)) (.cons rfl (.dat .int) (.cons rfl (.dat .int) (.cons rfl (.dat .int) (.cons rfl (.ptr rfl) (.cons rfl (.ptr rfl) (.cons rfl (.dat .bool) (.cons rfl (.dat .int) (.cons rfl (.ptr rfl) (.cons rfl (.dat .bool) .nil)))))))))))⟩
   ·intro y hC
    subst hC
    cases hb : y4
    ·have h17 := iteBF h6 hb
     refine RW.cond_f rfl (RW.skip (RW.reg (rl.run 3 rfl (rl.done ?_))))
     cases h17
     exact hB1 _ rfl _ _ (Gh.ren0 [0, 1] (.cells rfl rfl (.keep .int (.keep .int (.keep .int (.keep .int (.keep .int (.keep .int (.keep .str (.keep .str (.keep .str .nil))))))))) (.cells rfl rfl (.keep .int (.keep .int (.keep .int (.keep .int (.keep .int (.keep .int (.keep .str (.keep .str (.keep .str .nil))))))))) .nil)) rfl (.cons rfl (.dat (ek_TItem.rlst)) (.cons rfl (.dat .int) (.cons rfl (.dat .int) (.cons rfl (.dat .int) (.cons rfl (.ptr rfl) (.cons rfl (.ptr rfl) (.cons rfl (.dat .bool) (.cons rfl (.dat .int) .nil)))))))))
    ·have h18 := iteBT h6 hb
     refine RW.cond_t rfl (RW.sreg (rl.run 2 rfl (rl.done (RW.reg (rl.run 1 rfl (rl.done (RW.reg (rl.run 3 rfl (rl.done ?_)))))))))
     cases h18
     exact hB1 _ rfl _ _ (Gh.ren0 [0, 1] (.cells rfl rfl (.keep .int (.keep .int (.keep .int (.keep .int (.keep .int (.keep .int (.keep .str (.keep .str (.keep .str .nil))))))))) (.cells rfl rfl (.keep .int (.keep .int (.keep .int (.keep .int (.keep .int (.keep .int (.keep .str (.keep .str (.keep .str .nil))))))))) .nil)) rfl (.cons rfl (.dat (ek_TItem.rlst)) (.cons rfl (.dat .int) (.cons rfl (.dat .int) (.cons rfl (.dat .int) (.cons rfl (.ptr rfl) (.cons rfl (.ptr rfl) (.cons rfl (.dat .bool) (.cons rfl (.dat .int) .nil)))))))))
 ·intro y2 hC
  subst hC
  refine RW.sreg (rl.run 4 rfl (rl.done (RW.ret ?_)))
  cases h2
  exact RRet.mk rfl (OutT.tup (.cons (OutL.agg (.cons .int rfl (.cons .int rfl (.cons .int rfl (.cons .int rfl (.cons .int rfl (.cons .int rfl (.cons .str rfl (.cons .str rfl (.cons .str rfl .nil)))))))))) (.cons .bool .nil))) (by first | decide | simp)
set_option maxHeartbeats 2000000 in
theorem law_spec_l07Sorted {x0 : List Int} {x1 : Int} {r : List Int} (hF : F_spec_l07Sorted x0 x1 = some r) : PCalls Try.prog 80 [L_I x0, .j x1] (.lst true 1 (fl (encI true) r) r.length) := by
 refine PCalls.of_r k_spec_l07Sorted rfl ?_
 unfold F_spec_l07Sorted at hF
 refine RW.sreg (rl.run 1 rfl (rl.done (RW.sreg (rl.run 2 rfl (rl.done (RW.seq (RW.sreg (rl.run 1 rfl (rl.done ?_)))))))))
 refine RW.gh (Gh.nil_t 5 1 rfl) ?_
 obtain ⟨y6, ey6, h2⟩ := bindS hF
 refine RW.cutq (σ := (List Int)) (fun y2 => [(0, L_I x0), (1, .j x1), (5, .sl 0 0 y2.length)]) (fun y2 => [some ⟨fl (encI true) y2, 1⟩]) (fun y => y6 = y) (fun _ _ _ _ g h => RW.gh g h) ?_ ?_
 ·refine RW.blk ?_
  refine RW.iter (σ := Int × (List Int)) ey6 (fun s1 => [(0, L_I x0), (1, .j x1), (5, .sl 0 0 s1.2.length), (6, .j s1.1)]) (fun s1 => [some ⟨fl (encI true) s1.2, 1⟩]) (Gh.ren0 [0] (.same rfl (ekI.fref _ _) .nil) rfl (.cons rfl (.dat (ekI.rlst)) (.cons rfl (.dat .int) (.cons rfl (.slq rfl rfl) (.cons rfl (.dat .int) .nil))))) (fun s1 B o hS1 hB1 hE1 => ?_)
  unfold S_spec_l07Sorted_1 at hS1
  refine RW.seq (RW.sreg (rl.run 3 rfl ?_))
  refine rl.gen rfl rfl fun b hb => ?_
  cases b
  ·have h3 := iteBF hS1 hb
   refine rl.done (RW.cond_f rfl (RW.exit (blkA_eq ?_)))
   cases h3
   exact ⟨_, (hE1 _ rfl).symm, (Gh.ren0 [0] (.same rfl (ekI.fref _ _) .nil) rfl (.cons rfl (.dat (ekI.rlst)) (.cons rfl (.dat .int) (.cons rfl (.slq rfl rfl) .nil))))⟩
  ·have h4 := iteBT hS1 hb
   refine rl.done (RW.cond_t rfl (RW.skip (RW.seq (RW.blk (RW.sreg (rl.run 2 rfl ?_))))))
   obtain ⟨v3, e3, h5⟩ := bindS h4
   refine rl.op (x_ia_lst (enc := encI) (o := false) rfl rfl rfl e3) ?_
   refine rl.op (x_ld_el (off' := 0) ekI rfl e3 rfl rfl rfl) ?_
   refine rl.run 1 rfl ?_
   refine rl.gen rfl rfl fun b hb => ?_
   cases b
   ·have h6 := iteBF h5 hb
    refine rl.done (RW.cond_f rfl (RW.skip (RW.reg (rl.run 3 rfl (rl.done ?_)))))
    cases h6
    exact hB1 _ rfl _ _ (Gh.ren0 [0] (.same rfl (ekI.fref _ _) .nil) rfl (.cons rfl (.dat (ekI.rlst)) (.cons rfl (.dat .int) (.cons rfl (.slq rfl rfl) (.cons rfl (.dat .int) .nil)))))
   ·have h7 := iteBT h5 hb
    refine rl.done (RW.cond_t rfl (RW.reg (rl.run 3 rfl ?_)))
    obtain ⟨v4, e4, h8⟩ := bindS h7
    refine rl.op (x_ia_lst (enc := encI) (o := false) rfl rfl rfl e4) ?_
    refine rl.op (x_ld_el (off' := 0) ekI rfl e4 rfl rfl rfl) ?_
    refine rl.run 1 rfl ?_
    obtain ⟨v5, e5, h9⟩ := bindS h8
    refine rl.op (x_app rfl rfl (rapp_sl (l := s1.2) (m := [v4]) (o := true) ekI rfl rfl (acont_slq (m := [v4]) (o := true) fkI rfl rfl) rfl (fkI.fst _ _) e5)) ?_
    refine rl.run 1 rfl (rl.done (RW.reg (rl.run 3 rfl (rl.done ?_))))
    cases h9
    exact hB1 _ rfl _ _ (Gh.ren0 [2] (.same rfl (ekI.fref _ _) .nil) rfl (.cons rfl (.dat (ekI.rlst)) (.cons rfl (.dat .int) (.cons rfl (.slq rfl rfl) (.cons rfl (.dat .int) .nil)))))
 ·intro y2 hC
  subst hC
  refine RW.sreg (rl.run 3 rfl ?_)
  obtain ⟨v7, e7, h10⟩ := bindS h2
  refine rl.op (x_app rfl rfl (rapp_sl (l := y6) (m := [x1]) (o := true) ekI rfl rfl (acont_slq (m := [x1]) (o := true) fkI rfl rfl) rfl (fkI.fst _ _) e7)) ?_
  refine rl.run 1 rfl (rl.done (RW.seq (RW.sreg (rl.run 1 rfl (rl.done ?_)))))
  obtain ⟨y13, ey13, h12⟩ := bindS h10
  refine RW.cutq (σ := (List Int)) (fun y9 => [(5, .sl 0 0 y9.length)]) (fun y9 => [some ⟨fl (encI true) y9, 1⟩]) (fun y => y13 = y) (fun _ _ _ _ g h => RW.gh g h) ?_ ?_
  ·refine RW.blk ?_
   refine RW.iter (σ := Int × (List Int)) ey13 (fun s8 => [(0, L_I x0), (1, .j x1), (5, .sl 0 0 s8.2.length), (7, .j s8.1)]) (fun s8 => [some ⟨fl (encI true) s8.2, 1⟩]) (Gh.ren0 [2] (.same rfl (ekI.fref _ _) .nil) rfl (.cons rfl (.dat (ekI.rlst)) (.cons rfl (.dat .int) (.cons rfl (.slq rfl rfl) (.cons rfl (.dat .int) .nil))))) (fun s8 B o hS11 hB11 hE11 => ?_)
   unfold S_spec_l07Sorted_2 at hS11
   refine RW.seq (RW.sreg (rl.run 3 rfl ?_))
   refine rl.gen rfl rfl fun b hb => ?_
   cases b
   ·have h13 := iteBF hS11 hb
    refine rl.done (RW.cond_f rfl (RW.exit (blkA_eq ?_)))
    cases h13
    exact ⟨_, (hE11 _ rfl).symm, (Gh.ren0 [0] (.same rfl (ekI.fref _ _) .nil) rfl (.cons rfl (.slq rfl rfl) .nil))⟩
   ·have h14 := iteBT hS11 hb
    refine rl.done (RW.cond_t rfl (RW.skip (RW.seq (RW.blk (RW.sreg (rl.run 2 rfl ?_))))))
    obtain ⟨v10, e10, h15⟩ := bindS h14
    refine rl.op (x_ia_lst (enc := encI) (o := false) rfl rfl rfl e10) ?_
    refine rl.op (x_ld_el (off' := 0) ekI rfl e10 rfl rfl rfl) ?_
    refine rl.run 1 rfl ?_
    refine rl.gen rfl rfl fun b hb => ?_
    cases b
    ·have h16 := iteBF h15 hb
     refine rl.done (RW.cond_f rfl (RW.skip (RW.reg (rl.run 3 rfl (rl.done ?_)))))
     cases h16
     exact hB11 _ rfl _ _ (Gh.ren0 [0] (.same rfl (ekI.fref _ _) .nil) rfl (.cons rfl (.dat (ekI.rlst)) (.cons rfl (.dat .int) (.cons rfl (.slq rfl rfl) (.cons rfl (.dat .int) .nil)))))
    ·have h17 := iteBT h15 hb
     refine rl.done (RW.cond_t rfl (RW.reg (rl.run 3 rfl ?_)))
     obtain ⟨v11, e11, h18⟩ := bindS h17
     refine rl.op (x_ia_lst (enc := encI) (o := false) rfl rfl rfl e11) ?_
     refine rl.op (x_ld_el (off' := 0) ekI rfl e11 rfl rfl rfl) ?_
     refine rl.run 1 rfl ?_
     obtain ⟨v12, e12, h19⟩ := bindS h18
     refine rl.op (x_app rfl rfl (rapp_sl (l := s8.2) (m := [v11]) (o := true) ekI rfl rfl (acont_slq (m := [v11]) (o := true) fkI rfl rfl) rfl (fkI.fst _ _) e12)) ?_
     refine rl.run 1 rfl (rl.done (RW.reg (rl.run 3 rfl (rl.done ?_))))
     cases h19
     exact hB11 _ rfl _ _ (Gh.ren0 [2] (.same rfl (ekI.fref _ _) .nil) rfl (.cons rfl (.dat (ekI.rlst)) (.cons rfl (.dat .int) (.cons rfl (.slq rfl rfl) (.cons rfl (.dat .int) .nil)))))
  ·intro y9 hC
   subst hC
   refine RW.sreg (rl.run 2 rfl (rl.done (RW.ret ?_)))
   cases h12
   exact RRet.mk rfl (OutR.ownq ekI rfl rfl) (by first | decide | simp)
set_option maxHeartbeats 2000000 in
theorem law_spec_l07Tell {x0 : List TItem} {x1 : Int} {r : TItem} (hF : F_spec_l07Tell x0 x1 = some r) : PCalls Try.prog 81 [L_TItem x0, .j x1] (.agg (enc_TItem true r)) := by
 refine PCalls.of_r k_spec_l07Tell rfl ?_
 unfold F_spec_l07Tell at hF
 refine RW.sreg (rl.run 1 rfl (rl.done (RW.sreg (rl.run 3 rfl (rl.done (RW.seq (RW.sreg (rl.run 1 rfl (rl.done ?_)))))))))
 obtain ⟨y6, ey6, h2⟩ := bindS hF
 refine RW.cutq (σ := Int × Int × Int × Int × Int × Int × (List UInt8) × (List UInt8) × (List UInt8)) (fun y2 => [(4, .ptr 0 0), (5, .ptr 1 0)]) (fun y2 => [some ⟨[.j 0, .j 0, .j 0, .j 0, .j 0, .j 0, .str [], .str [], .str []], 0⟩, some ⟨[.j y2.1, .j y2.2.1, .j y2.2.2.1, .j y2.2.2.2.1, .j y2.2.2.2.2.1, .j y2.2.2.2.2.2.1, .str y2.2.2.2.2.2.2.1, .str y2.2.2.2.2.2.2.2.1, .str y2.2.2.2.2.2.2.2.2], 0⟩]) (fun y => y6 = y) (fun _ _ _ _ g h => RW.gh g h) ?_ ?_
 ·refine RW.blk ?_
  refine RW.iter (σ := Int × Int × Int × Int × Int × Int × Int × (List UInt8) × (List UInt8) × (List UInt8)) ey6 (fun s1 => [(0, L_TItem x0), (1, .j x1), (4, .ptr 0 0), (5, .ptr 1 0), (6, .j s1.1)]) (fun s1 => [some ⟨[.j 0, .j 0, .j 0, .j 0, .j 0, .j 0, .str [], .str [], .str []], 0⟩, some ⟨[.j s1.2.1, .j s1.2.2.1, .j s1.2.2.2.1, .j s1.2.2.2.2.1, .j s1.2.2.2.2.2.1, .j s1.2.2.2.2.2.2.1, .str s1.2.2.2.2.2.2.2.1, .str s1.2.2.2.2.2.2.2.2.1, .str s1.2.2.2.2.2.2.2.2.2], 0⟩]) (Gh.ren0 [0, 1] (.cells rfl rfl (.keep .int (.keep .int (.keep .int (.keep .int (.keep .int (.keep .int (.keep .str (.keep .str (.keep .str .nil))))))))) (.cells rfl rfl (.keep .int (.keep .int (.keep .int (.keep .int (.keep .int (.keep .int (.keep .str (.keep .str (.keep .str .nil))))))))) .nil)) rfl (.cons rfl (.dat (ek_TItem.rlst)) (.cons rfl (.dat .int) (.cons rfl (.ptr rfl) (.cons rfl (.ptr rfl) (.cons rfl (.dat .int) .nil)))))) (fun s1 B o hS1 hB1 hE1 => ?_)
  unfold S_spec_l07Tell_1 at hS1
  refine RW.seq (RW.sreg (rl.run 3 rfl ?_))
  refine rl.gen rfl rfl fun b hb => ?_
  cases b
  ·have h3 := iteBF hS1 hb
   refine rl.done (RW.cond_f rfl (RW.exit (blkA_eq ?_)))
   cases h3
   exact ⟨_, (hE1 _ rfl).symm, (Gh.ren0 [0, 1] (.cells rfl rfl (.keep .int (.keep .int (.keep .int (.keep .int (.keep .int (.keep .int (.keep .str (.keep .str (.keep .str .nil))))))))) (.cells rfl rfl (.keep .int (.keep .int (.keep .int (.keep .int (.keep .int (.keep .int (.keep .str (.keep .str (.keep .str .nil))))))))) .nil)) rfl (.cons rfl (.ptr rfl) (.cons rfl (.ptr rfl) .nil)))⟩
  ·have h4 := iteBT hS1 hb
   refine rl.done (RW.cond_t rfl (RW.skip (RW.seq (RW.blk (RW.sreg (rl.run 2 rfl ?_))))))
   obtain ⟨v3, e3, h5⟩ := bindS h4
   refine rl.op (x_ia_lst (enc := enc_TItem) (o := false) rfl rfl rfl e3) ?_
   refine rl.op (x_ld_ela (off' := 0) (vs := (enc_TItem false v3)) ek_TItem rfl e3 rfl rfl rfl) ?_
   refine rl.run 2 rfl (rl.done (RW.seq (RW.seq ?_)))
   obtain ⟨y4, ey4, h6⟩ := bindS h5
   refine RW.cutq (σ := Bool) (fun y4 => [(0, L_TItem x0), (1, .j x1), (4, .ptr 0 0), (5, .ptr 1 0), (6, .j s1.1), (7, .ptr 2 0), (29, .bool y4)]) (fun y4 => [some ⟨[.j 0, .j 0, .j 0, .j 0, .j 0, .j 0, .str [], .str [], .str []], 0⟩, some ⟨[.j s1.2.1, .j s1.2.2.1, .j s1.2.2.2.1, .j s1.2.2.2.2.1, .j s1.2.2.2.2.2.1, .j s1.2.2.2.2.2.2.1, .str s1.2.2.2.2.2.2.2.1, .str s1.2.2.2.2.2.2.2.2.1, .str s1.2.2.2.2.2.2.2.2.2], 0⟩, some ⟨[.j v3.Seq, .j v3.Rec.Kind, .j v3.Rec.Valid, .j v3.Rec.Uid, .j v3.Rec.Next, .j v3.Rec.Flags, .str v3.Rec.User, .str v3.Rec.Name, .str v3.Rec.Text], 0⟩]) (fun y => y4 = y) (fun _ _ _ _ g h => RW.gh g h) ?_ ?_
   ·refine RW.reg ?_
    refine rl.run 3 rfl ?_
    refine rl.gen rfl rfl fun b hb => ?_
    cases b
    ·have h7 := iteBF ey4 hb
     refine rl.run 5 rfl ?_
     refine rl.gen rfl rfl fun b hb => ?_
     cases b
     ·have h8 := iteBF h7 hb
      refine rl.run 1 rfl (rl.done ?_)
      cases h8
      exact ⟨_, rfl, (Gh.ren0 [0, 1, 2] (.cells rfl rfl (.keep .int (.keep .int (.keep .int (.keep .int (.keep .int (.keep .int (.keep .str (.keep .str (.keep .str .nil))))))))) (.cells rfl rfl (.keep .int (.keep .int (.keep .int (.keep .int (.keep .int (.keep .int (.keep .str (.keep .str (.keep .str .nil))))))))) (.cells rfl rfl (.keep .int (.keep .int (.keep .int (.keep .int (.keep .int (.keep .int (.keep .str (.keep .str (.keep .str .nil))))))))) .nil))) rfl (.cons rfl (.dat (ek_TItem.rlst)) (.cons rfl (.dat .int) (.cons rfl (.ptr rfl) (.cons rfl (.ptr rfl) (.cons rfl (.dat .int) (.cons rfl (.ptr rfl) (.cons rfl (.dat .bool) .nil))))))))⟩
     ·have h9 := iteBT h7 hb
      refine rl.run 1 rfl (rl.done ?_)
      cases h9
      exact ⟨_, rfl, (Gh.ren0 [0, 1, 2] (.cells rfl rfl (.keep .int (.keep .int (.keep .int (.keep .int (.keep .int (.keep .int (.keep .str (.keep .str (.keep .str .nil))))))))) (.cells rfl rfl (.keep .int (.keep .int (.keep .int (.keep .int (.keep .int (.keep .int (.keep .str (.keep .str (.keep .str .nil))))))))) (.cells rfl rfl (.keep .int (.keep .int (.keep .int (.keep .int (.keep .int (.keep .int (.keep .str (.keep .str (.keep .str .nil))))))))) .nil))) rfl (.cons rfl (.dat (ek_TItem.rlst)) (.cons rfl (.dat .int) (.cons rfl (.ptr rfl) (.cons rfl (.ptr rfl) (.cons rfl (.dat .int) (.cons rfl (.ptr rfl) (.cons rfl (.dat .bool) .nil))))))))⟩
    ·have h10 := iteBT ey4 hb
     refine rl.run 7 rfl (rl.done ?_)
     cases h10
     exact ⟨_, rfl, (Gh.ren0 [0, 1, 2] (.cells rfl rfl (.keep .int (.keep .int (.keep .int (.keep .int (.keep .int (.keep .int (.keep .str (.keep .str (.keep .str .nil))))))))) (.cells rfl rfl (.keep .int (.keep .int (.keep .int (.keep .int (.keep .int (.keep .int (.keep .str (.keep .str (.keep .str .nil))))))))) (.cells rfl rfl (.keep .int (.keep .int (.keep .int (.keep .int (.keep .int (.keep .int (.keep .str (.keep .str (.keep .str .nil))))))))) .nil))) rfl (.cons rfl (.dat (ek_TItem.rlst)) (.cons rfl (.dat .int) (.cons rfl (.ptr rfl) (.cons rfl (.ptr rfl) (.cons rfl (.dat .int) (.cons rfl (.ptr rfl) (.cons rfl (.dat .bool) .nil))))))))⟩
   ·intro y hC
    subst hC
    cases hb : y4
    ·have h11 := iteBF h6 hb
     refine RW.cond_f rfl (RW.skip (RW.seq ?_))
     obtain ⟨y5, ey5, h12⟩ := bindS h11
     refine RW.cutq (σ := Bool) (fun y5 => [(0, L_TItem x0), (1, .j x1), (4, .ptr 0 0), (5, .ptr 1 0), (6, .j s1.1), (7, .ptr 2 0), (57, .bool y5)]) (fun y5 => [some ⟨[.j 0, .j 0, .j 0, .j 0, .j 0, .j 0, .str [], .str [], .str []], 0⟩, some ⟨[.j s1.2.1, .j s1.2.2.1, .j s1.2.2.2.1, .j s1.2.2.2.2.1, .j s1.2.2.2.2.2.1, .j s1.2.2.2.2.2.2.1, .str s1.2.2.2.2.2.2.2.1, .str s1.2.2.2.2.2.2.2.2.1, .str s1.2.2.2.2.2.2.2.2.2], 0⟩, some ⟨[.j v3.Seq, .j v3.Rec.Kind, .j v3.Rec.Valid, .j v3.Rec.Uid, .j v3.Rec.Next, .j v3.Rec.Flags, .str v3.Rec.User, .str v3.Rec.Name, .str v3.Rec.Text], 0⟩]) (fun y => y5 = y) (fun _ _ _ _ g h => RW.gh g h) ?_ ?_
     ·refine RW.reg ?_
      refine rl.run 2 rfl ?_
      refine rl.gen rfl rfl fun b hb => ?_
      cases b
      ·have h13 := iteBF ey5 hb
       refine rl.run 7 rfl ?_
       refine rl.gen rfl rfl fun b hb => ?_
       cases b
       ·have h14 := iteBF h13 hb
        refine rl.run 8 rfl ?_
        refine rl.gen rfl rfl fun b hb => ?_
        cases b
        ·have h15 := iteBF h14 hb
         refine rl.run 8 rfl (rl.done ?_)
         cases h15
         exact ⟨_, rfl, (Gh.ren0 [0, 1, 2] (.cells rfl rfl (.keep .int (.keep .int (.keep .int (.keep .int (.keep .int (.keep .int (.keep .str (.keep .str (.keep .str .nil))))))))) (.cells rfl rfl (.keep .int (.keep .int (.keep .int (.keep .int (.keep .int (.keep .int (.keep .str (.keep .str (.keep .str .nil))))))))) (.cells rfl rfl (.keep .int (.keep .int (.keep .int (.keep .int (.keep .int (.keep .int (.keep .str (.keep .str (.keep .str .nil))))))))) .nil))) rfl (.cons rfl (.dat (ek_TItem.rlst)) (.cons rfl (.dat .int) (.cons rfl (.ptr rfl) (.cons rfl (.ptr rfl) (.cons rfl (.dat .int) (.cons rfl (.ptr rfl) (.cons rfl (.dat .bool) .nil))))))))⟩
        ·have h16 := iteBT h14 hb
         refine rl.run 5 rfl ?_
         refine rl.gen rfl rfl fun b hb => ?_
         cases b
         ·have h17 := iteBF h16 hb
          refine rl.run 2 rfl (rl.done ?_)
          cases h17
          exact ⟨_, rfl, (Gh.ren0 [0, 1, 2] (.cells rfl rfl (.keep .int (.keep .int (.keep .int (.keep .int (.keep .int (.keep .int (.keep .str (.keep .str (.keep .str .nil))))))))) (.cells rfl rfl (.keep .int (.keep .int (.keep .int (.keep .int (.keep .int (.keep .int (.keep .str (.keep .str (.keep .str .nil))))))))) (.cells rfl rfl (.keep .int (.keep .int (.keep .int (.keep .int (.keep .int (.keep .int (.keep .str (.keep .str (.keep .str .nil))))))))) .nil))) rfl (.cons rfl (.dat (ek_TItem.rlst)) (.cons rfl (.dat .int) (.cons rfl (.ptr rfl) (.cons rfl (.ptr rfl) (.cons rfl (.dat .int) (.cons rfl (.ptr rfl) (.cons rfl (.dat .bool) .nil))))))))⟩
         ·have h18 := iteBT h16 hb
          refine rl.run 2 rfl (rl.done ?_)
          cases h18
          exact ⟨_, rfl, (Gh.ren0 [0, 1, 2] (.cells rfl rfl (.keep .int (.keep .int (.keep .int (.keep .int (.keep .int (.keep .int (.keep .str (.keep .str (.keep .str .nil))))))))) (.cells rfl rfl (.keep .int (.keep .int (.keep .int (.keep .int (.keep .int (.keep .int (.keep .str (.keep .str (.keep .str .nil))))))))) (.cells rfl rfl (.keep .int (.keep .int (.keep .int (.keep .int (.keep .int (.keep .int (.keep .str (.keep .str (.keep .str .nil))))))))) .nil))) rfl (.cons rfl (.dat (ek_TItem.rlst)) (.cons rfl (.dat .int) (.cons rfl (.ptr rfl) (.cons rfl (.ptr rfl) (.cons rfl (.dat .int) (.cons rfl (.ptr rfl) (.cons rfl (.dat .bool) .nil))))))))⟩
       ·have h19 := iteBT h13 hb
        refine rl.run 17 rfl (rl.done ?_)
        cases h19
        exact ⟨_, rfl, (Gh.ren0 [0, 1, 2] (.cells rfl rfl (.keep .int (.keep .int (.keep .int (.keep .int (.keep .int (.keep .int (.keep .str (.keep .str (.keep .str .nil))))))))) (.cells rfl rfl (.keep .int (.keep .int (.keep .int (.keep .int (.keep .int (.keep .int (.keep .str (.keep .str (.keep .str .nil))))))))) (.cells rfl rfl (.keep .int (.keep .int (.keep .int (.keep .int (.keep .int (.keep .int (.keep .str (.keep .str (.keep .str .nil))))))))) .nil))) rfl (.cons rfl (.dat (ek_TItem.rlst)) (.cons rfl (.dat .int) (.cons rfl (.ptr rfl) (.cons rfl (.ptr rfl) (.cons rfl (.dat .int) (.cons rfl (.ptr rfl) (.cons rfl (.dat .bool) .nil))))))))⟩
      ·have h20 := iteBT ey5 hb
       refine rl.run 25 rfl (rl.done ?_)
       cases h20
       exact ⟨_, rfl, (Gh.ren0 [0, 1, 2] (.cells rfl rfl (.keep .int (.keep .int (.keep .int (.keep .int (.keep .int (.keep .int (.keep .str (.keep .str (.keep .str .nil))))))))) (.cells rfl rfl (.keep .int (.keep .int (.keep .int (.keep .int (.keep .int (.keep .int (.keep .str (.keep .str (.keep .str .nil))))))))) (.cells rfl rfl (.keep .int (.keep .int (.keep .int (.keep .int (.keep .int (.keep .int (.keep .str (.keep .str (.keep .str .nil))))))))) .nil))) rfl (.cons rfl (.dat (ek_TItem.rlst)) (.cons rfl (.dat .int) (.cons rfl (.ptr rfl) (.cons rfl (.ptr rfl) (.cons rfl (.dat .int) (.cons rfl (.ptr rfl) (.cons rfl (.dat .bool) .nil))))))))⟩
     ·intro y hC
      subst hC
      cases hb : y5
      ·have h21 := iteBF h12 hb
       refine RW.cond_f rfl (RW.skip (RW.reg (rl.run 3 rfl (rl.done ?_))))
       cases h21
       exact hB1 _ rfl _ _ (Gh.ren0 [0, 1] (.cells rfl rfl (.keep .int (.keep .int (.keep .int (.keep .int (.keep .int (.keep .int (.keep .str (.keep .str (.keep .str .nil))))))))) (.cells rfl rfl (.keep .int (.keep .int (.keep .int (.keep .int (.keep .int (.keep .int (.keep .str (.keep .str (.keep .str .nil))))))))) .nil)) rfl (.cons rfl (.dat (ek_TItem.rlst)) (.cons rfl (.dat .int) (.cons rfl (.ptr rfl) (.cons rfl (.ptr rfl) (.cons rfl (.dat .int) .nil))))))
      ·have h22 := iteBT h12 hb
       refine RW.cond_t rfl (RW.reg (rl.run 2 rfl (rl.done (RW.reg (rl.run 3 rfl (rl.done ?_))))))
       cases h22
       exact hB1 _ rfl _ _ (Gh.ren0 [0, 1] (.cells rfl rfl (.keep .int (.keep .int (.keep .int (.keep .int (.keep .int (.keep .int (.keep .str (.keep .str (.keep .str .nil))))))))) (.cells rfl rfl (.keep .int (.keep .int (.keep .int (.keep .int (.keep .int (.keep .int (.keep .str (.keep .str (.keep .str .nil))))))))) .nil)) rfl (.cons rfl (.dat (ek_TItem.rlst)) (.cons rfl (.dat .int) (.cons rfl (.ptr rfl) (.cons rfl (.ptr rfl) (.cons rfl (.dat .int) .nil))))))
    ·have h23 := iteBT h6 hb
     refine RW.cond_t rfl (RW.exit (blkA_eq (RW.reg (rl.run 3 rfl (rl.done ?_)))))
     cases h23
     exact hB1 _ rfl _ _ (Gh.ren0 [0, 1] (.cells rfl rfl (.keep .int (.keep .int (.keep .int (.keep .int (.keep .int (.keep .int (.keep .str (.keep .str (.keep .str .nil))))))))) (.cells rfl rfl (.keep .int (.keep .int (.keep .int (.keep .int (.keep .int (.keep .int (.keep .str (.keep .str (.keep .str .nil))))))))) .nil)) rfl (.cons rfl (.dat (ek_TItem.rlst)) (.cons rfl (.dat .int) (.cons rfl (.ptr rfl) (.cons rfl (.ptr rfl) (.cons rfl (.dat .int) .nil))))))
 ·intro y2 hC
  subst hC
  refine RW.sreg (rl.run 2 rfl (rl.done (RW.ret ?_)))
  cases h2
  exact RRet.mk rfl (OutL.agg (.cons .int rfl (.cons .int rfl (.cons .int rfl (.cons .int rfl (.cons .int rfl (.cons .int rfl (.cons .str rfl (.cons .str rfl (.cons .str rfl .nil)))))))))) (by first | decide | simp)
set_option maxHeartbeats 2000000 in
theorem law_spec_l07Next {x0 : List TItem} {x1 : Int} {r : Int} (hF : F_spec_l07Next x0 x1 = some r) : PCalls Try.prog 82 [L_TItem x0, .j x1] (.j r) := by
 refine PCalls.of_r k_spec_l07Next rfl ?_
 unfold F_spec_l07Next at hF
 refine RW.sreg (rl.run 1 rfl (rl.done (RW.sreg (rl.run 1 rfl (rl.done (RW.seq (RW.sreg (rl.run 1 rfl (rl.done ?_)))))))))
 obtain ⟨y5, ey5, h2⟩ := bindS hF
 refine RW.cutq (σ := Int) (fun y2 => [(5, .j y2)]) (fun y2 => []) (fun y => y5 = y) (fun _ _ _ _ g h => RW.gh g h) ?_ ?_
 ·refine RW.blk ?_
  refine RW.iter (σ := Int × Int) ey5 (fun s1 => [(0, L_TItem x0), (1, .j x1), (5, .j s1.1), (6, .j s1.2)]) (fun s1 => []) (Gh.ren0 [] .nil rfl (.cons rfl (.dat (ek_TItem.rlst)) (.cons rfl (.dat .int) (.cons rfl (.dat .int) (.cons rfl (.dat .int) .nil))))) (fun s1 B o hS1 hB1 hE1 => ?_)
  unfold S_spec_l07Next_1 at hS1
  refine RW.seq (RW.sreg (rl.run 3 rfl ?_))
  refine rl.gen rfl rfl fun b hb => ?_
  cases b
  ·have h3 := iteBF hS1 hb
   refine rl.done (RW.cond_f rfl (RW.exit (blkA_eq ?_)))
   cases h3
   exact ⟨_, (hE1 _ rfl).symm, (Gh.ren0 [] .nil rfl (.cons rfl (.dat .int) .nil))⟩
  ·have h4 := iteBT hS1 hb
   refine rl.done (RW.cond_t rfl (RW.skip (RW.seq (RW.blk (RW.sreg (rl.run 2 rfl ?_))))))
   obtain ⟨v3, e3, h5⟩ := bindS h4
   refine rl.op (x_ia_lst (enc := enc_TItem) (o := false) rfl rfl rfl e3) ?_
   refine rl.run 1 rfl ?_
   refine rl.op (x_ld_ela (off' := 1) (vs := (enc_TRec false v3.Rec)) ek_TItem rfl e3 rfl rfl rfl) ?_
   refine rl.run 2 rfl (rl.done (RW.seq (RW.sreg (rl.run 3 rfl ?_))))
   refine rl.gen rfl rfl fun b hb => ?_
   cases b
   ·have h6 := iteBF h5 hb
    refine rl.done ?_
    refine RW.kp [0, 1, 5, 6, 7, 23] [(0, L_TItem x0), (1, .j x1), (5, .j s1.1), (6, .j s1.2), (7, .ptr 0 0), (23, .bool false)] [some ⟨[.j v3.Rec.Kind, .j v3.Rec.Valid, .j v3.Rec.Uid, .j v3.Rec.Next, .j v3.Rec.Flags, .str v3.Rec.User, .str v3.Rec.Name, .str v3.Rec.Text], 0⟩] rfl rfl ?_
    refine RW.cond_f rfl (RW.skip (RW.sreg (rl.run 1 rfl (rl.done (RW.seq (RW.sreg (rl.run 2 rfl (rl.done ?_))))))))
    obtain ⟨y4, ey4, h7⟩ := bindS h6
    refine RW.cutq (σ := Int) (fun y4 => [(0, L_TItem x0), (1, .j x1), (5, .j s1.1), (6, .j s1.2), (8, .j y4)]) (fun y4 => []) (fun y => y4 = y) (fun _ _ _ _ g h => RW.gh g h) ?_ ?_
    ·refine RW.blk ?_
     refine RW.sreg ?_
     refine rl.gen rfl rfl fun b hb => ?_
     cases b
     ·have h8 := iteBF ey4 hb
      refine rl.run 1 rfl (rl.done (RW.cond_f rfl (RW.seq (RW.sreg ?_))))
      refine rl.gen rfl rfl fun b hb => ?_
      cases b
      ·have h9 := iteBF h8 hb
       refine rl.run 1 rfl (rl.done (RW.cond_f rfl (RW.reg ?_)))
       refine rl.gen rfl rfl fun b hb => ?_
       cases b
       ·have h10 := iteBF h9 hb
        refine rl.run 1 rfl (rl.done (RW.cond_f rfl (RW.skip ?_)))
        cases h10
        exact ⟨_, rfl, (Gh.ren0 [] .nil rfl (.cons rfl (.dat (ek_TItem.rlst)) (.cons rfl (.dat .int) (.cons rfl (.dat .int) (.cons rfl (.dat .int) (.cons rfl (.dat .int) .nil))))))⟩
       ·have h11 := iteBT h9 hb
        refine rl.run 1 rfl (rl.done (RW.cond_t rfl (RW.reg (rl.run 4 rfl (rl.done ?_)))))
        cases h11
        exact ⟨_, rfl, (Gh.ren0 [] .nil rfl (.cons rfl (.dat (ek_TItem.rlst)) (.cons rfl (.dat .int) (.cons rfl (.dat .int) (.cons rfl (.dat .int) (.cons rfl (.dat .int) .nil))))))⟩
      ·have h12 := iteBT h8 hb
       refine rl.run 1 rfl (rl.done (RW.cond_t rfl (RW.skip (RW.cond_t rfl (RW.reg (rl.run 4 rfl (rl.done ?_)))))))
       cases h12
       exact ⟨_, rfl, (Gh.ren0 [] .nil rfl (.cons rfl (.dat (ek_TItem.rlst)) (.cons rfl (.dat .int) (.cons rfl (.dat .int) (.cons rfl (.dat .int) (.cons rfl (.dat .int) .nil))))))⟩
     ·have h13 := iteBT ey4 hb
      refine rl.run 1 rfl (rl.done (RW.cond_t rfl (RW.reg (rl.run 3 rfl (rl.done ?_)))))
      cases h13
      exact ⟨_, rfl, (Gh.ren0 [] .nil rfl (.cons rfl (.dat (ek_TItem.rlst)) (.cons rfl (.dat .int) (.cons rfl (.dat .int) (.cons rfl (.dat .int) (.cons rfl (.dat .int) .nil))))))⟩
    ·intro y hC
     subst hC
     refine RW.sreg (rl.run 2 rfl ?_)
     refine rl.gen rfl rfl fun b hb => ?_
     cases b
     ·have h14 := iteBF h7 hb
      refine rl.done (RW.cond_f rfl (RW.skip (RW.reg (rl.run 3 rfl (rl.done ?_)))))
      cases h14
      exact hB1 _ rfl _ _ (Gh.ren0 [] .nil rfl (.cons rfl (.dat (ek_TItem.rlst)) (.cons rfl (.dat .int) (.cons rfl (.dat .int) (.cons rfl (.dat .int) .nil)))))
     ·have h15 := iteBT h7 hb
      refine rl.done (RW.cond_t rfl (RW.reg (rl.run 2 rfl (rl.done (RW.reg (rl.run 3 rfl (rl.done ?_)))))))
      cases h15
      exact hB1 _ rfl _ _ (Gh.ren0 [] .nil rfl (.cons rfl (.dat (ek_TItem.rlst)) (.cons rfl (.dat .int) (.cons rfl (.dat .int) (.cons rfl (.dat .int) .nil)))))
   ·have h16 := iteBT h5 hb
    refine rl.done ?_
    refine RW.kp [0, 1, 5, 6, 7, 23] [(0, L_TItem x0), (1, .j x1), (5, .j s1.1), (6, .j s1.2), (7, .ptr 0 0), (23, .bool true)] [some ⟨[.j v3.Rec.Kind, .j v3.Rec.Valid, .j v3.Rec.Uid, .j v3.Rec.Next, .j v3.Rec.Flags, .str v3.Rec.User, .str v3.Rec.Name, .str v3.Rec.Text], 0⟩] rfl rfl ?_
    refine RW.cond_t rfl (RW.exit (blkA_eq (RW.reg (rl.run 3 rfl (rl.done ?_)))))
    cases h16
    exact hB1 _ rfl _ _ (Gh.ren0 [] .nil rfl (.cons rfl (.dat (ek_TItem.rlst)) (.cons rfl (.dat .int) (.cons rfl (.dat .int) (.cons rfl (.dat .int) .nil)))))
 ·intro y2 hC
  subst hC
  refine RW.sreg (rl.run 2 rfl (rl.done (RW.ret ?_)))
  cases h2
  exact RRet.mk rfl .int (by first | decide | simp)
set_option maxHeartbeats 2000000 in
theorem law_spec_l07Mails {x0 : List TItem} {x1 : Int} {r : List TMail} (hF : F_spec_l07Mails x0 x1 = some r) : PCalls Try.prog 83 [L_TItem x0, .j x1] (.lst true 3 (fl (enc_TMail true) r) r.length) := by
 refine PCalls.of_r k_spec_l07Mails rfl ?_
 unfold F_spec_l07Mails at hF
 refine RW.sreg (rl.run 1 rfl (rl.done (RW.sreg (rl.run 2 rfl (rl.done (RW.seq (RW.sreg (rl.run 1 rfl (rl.done ?_)))))))))
 refine RW.gh (Gh.nil_t 5 1 rfl) ?_
 obtain ⟨y7, ey7, h2⟩ := bindS hF
 refine RW.cutq (σ := (List Int)) (fun y2 => [(0, L_TItem x0), (1, .j x1), (5, .sl 0 0 y2.length)]) (fun y2 => [some ⟨fl (encI true) y2, 1⟩]) (fun y => y7 = y) (fun _ _ _ _ g h => RW.gh g h) ?_ ?_
 ·refine RW.blk ?_
  refine RW.iter (σ := Int × (List Int)) ey7 (fun s1 => [(0, L_TItem x0), (1, .j x1), (5, .sl 0 0 s1.2.length), (6, .j s1.1)]) (fun s1 => [some ⟨fl (encI true) s1.2, 1⟩]) (Gh.ren0 [0] (.same rfl (ekI.fref _ _) .nil) rfl (.cons rfl (.dat (ek_TItem.rlst)) (.cons rfl (.dat .int) (.cons rfl (.slq rfl rfl) (.cons rfl (.dat .int) .nil))))) (fun s1 B o hS1 hB1 hE1 => ?_)
  unfold S_spec_l07Mails_1 at hS1
  refine RW.seq (RW.sreg (rl.run 3 rfl ?_))
  refine rl.gen rfl rfl fun b hb => ?_
  cases b
  ·have h3 := iteBF hS1 hb
   refine rl.done (RW.cond_f rfl (RW.exit (blkA_eq ?_)))
   cases h3
   exact ⟨_, (hE1 _ rfl).symm, (Gh.ren0 [0] (.same rfl (ekI.fref _ _) .nil) rfl (.cons rfl (.dat (ek_TItem.rlst)) (.cons rfl (.dat .int) (.cons rfl (.slq rfl rfl) .nil))))⟩
  ·have h4 := iteBT hS1 hb
   refine rl.done (RW.cond_t rfl (RW.skip (RW.seq (RW.blk (RW.sreg (rl.run 2 rfl ?_))))))
   obtain ⟨v3, e3, h5⟩ := bindS h4
   refine rl.op (x_ia_lst (enc := enc_TItem) (o := false) rfl rfl rfl e3) ?_
   refine rl.run 1 rfl ?_
   refine rl.op (x_ld_ela (off' := 1) (vs := (enc_TRec false v3.Rec)) ek_TItem rfl e3 rfl rfl rfl) ?_
   refine rl.run 2 rfl (rl.done (RW.sreg (rl.run 4 rfl ?_)))
   obtain ⟨v4, e4, h6⟩ := bindS h5
   refine rl.call rfl rfl rfl (CallW.val (r' := .tup [.agg (enc_TItem false v4.1), .bool v4.2]) ok_spec_l07Best (law_spec_l07Best e4) (.cons (.lst ek_TItem) (.cons .int (.cons .int (.cons .int .nil)))) (FlL.tup (.cons .refl (.cons .refl .nil))) ?_)
   refine rl.run 6 rfl (rl.done ?_)
   refine RW.kp [0, 1, 5, 6, 7, 9] [(0, L_TItem x0), (1, .j x1), (5, .sl 0 0 s1.2.length), (6, .j s1.1), (7, .ptr 1 0), (9, .bool v4.2)] [some ⟨fl (encI true) s1.2, 1⟩, some ⟨[.j v3.Rec.Kind, .j v3.Rec.Valid, .j v3.Rec.Uid, .j v3.Rec.Next, .j v3.Rec.Flags, .str v3.Rec.User, .str v3.Rec.Name, .str v3.Rec.Text], 0⟩, some ⟨[.j v4.1.Seq, .j v4.1.Rec.Kind, .j v4.1.Rec.Valid, .j v4.1.Rec.Uid, .j v4.1.Rec.Next, .j v4.1.Rec.Flags, .str v4.1.Rec.User, .str v4.1.Rec.Name, .str v4.1.Rec.Text], 0⟩] rfl rfl ?_
   refine RW.seq ?_
   obtain ⟨y5, ey5, h7⟩ := bindS h6
   refine RW.cutq (σ := Bool) (fun y5 => [(0, L_TItem x0), (1, .j x1), (5, .sl 0 0 s1.2.length), (6, .j s1.1), (7, .ptr 1 0), (49, .bool y5)]) (fun y5 => [some ⟨fl (encI true) s1.2, 1⟩, some ⟨[.j v3.Rec.Kind, .j v3.Rec.Valid, .j v3.Rec.Uid, .j v3.Rec.Next, .j v3.Rec.Flags, .str v3.Rec.User, .str v3.Rec.Name, .str v3.Rec.Text], 0⟩]) (fun y => y5 = y) (fun _ _ _ _ g h => RW.gh g h) ?_ ?_
   ·refine RW.reg ?_
    refine rl.run 2 rfl ?_
    refine rl.gen rfl rfl fun b hb => ?_
    cases b
    ·have h8 := iteBF ey5 hb
     refine rl.run 10 rfl (rl.done ?_)
     cases h8
     exact ⟨_, rfl, (Gh.ren0 [0, 1] (.same rfl (ekI.fref _ _) (.cells rfl rfl (.keep .int (.keep .int (.keep .int (.keep .int (.keep .int (.keep .str (.keep .str (.keep .str .nil)))))))) .nil)) rfl (.cons rfl (.dat (ek_TItem.rlst)) (.cons rfl (.dat .int) (.cons rfl (.slq rfl rfl) (.cons rfl (.dat .int) (.cons rfl (.ptr rfl) (.cons rfl (.dat .bool) .nil)))))))⟩
    ·have h9 := iteBT ey5 hb
     refine rl.run 4 rfl ?_
     refine rl.gen rfl rfl fun b hb => ?_
     cases b
     ·have h10 := iteBF h9 hb
      refine rl.run 5 rfl (rl.done ?_)
      cases h10
      exact ⟨_, rfl, (Gh.ren0 [0, 1] (.same rfl (ekI.fref _ _) (.cells rfl rfl (.keep .int (.keep .int (.keep .int (.keep .int (.keep .int (.keep .str (.keep .str (.keep .str .nil)))))))) .nil)) rfl (.cons rfl (.dat (ek_TItem.rlst)) (.cons rfl (.dat .int) (.cons rfl (.slq rfl rfl) (.cons rfl (.dat .int) (.cons rfl (.ptr rfl) (.cons rfl (.dat .bool) .nil)))))))⟩
     ·have h11 := iteBT h9 hb
      refine rl.run 5 rfl (rl.done ?_)
      cases h11
      exact ⟨_, rfl, (Gh.ren0 [0, 1] (.same rfl (ekI.fref _ _) (.cells rfl rfl (.keep .int (.keep .int (.keep .int (.keep .int (.keep .int (.keep .str (.keep .str (.keep .str .nil)))))))) .nil)) rfl (.cons rfl (.dat (ek_TItem.rlst)) (.cons rfl (.dat .int) (.cons rfl (.slq rfl rfl) (.cons rfl (.dat .int) (.cons rfl (.ptr rfl) (.cons rfl (.dat .bool) .nil)))))))⟩
   ·intro y hC
    subst hC
    cases hb : y5
    ·have h12 := iteBF h7 hb
     refine RW.cond_f rfl (RW.skip (RW.reg (rl.run 3 rfl (rl.done ?_))))
     cases h12
     exact hB1 _ rfl _ _ (Gh.ren0 [0] (.same rfl (ekI.fref _ _) .nil) rfl (.cons rfl (.dat (ek_TItem.rlst)) (.cons rfl (.dat .int) (.cons rfl (.slq rfl rfl) (.cons rfl (.dat .int) .nil)))))
    ·have h13 := iteBT h7 hb
     refine RW.cond_t rfl (RW.reg (rl.run 3 rfl ?_))
     obtain ⟨v6, e6, h14⟩ := bindS h13
     refine rl.call rfl rfl rfl (CallW.own (r' := .sl 2 0 v6.length) (H' := [some ⟨fl (encI true) s1.2, 1⟩, some ⟨[.j v3.Rec.Kind, .j v3.Rec.Valid, .j v3.Rec.Uid, .j v3.Rec.Next, .j v3.Rec.Flags, .str v3.Rec.User, .str v3.Rec.Name, .str v3.Rec.Text], 0⟩, some ⟨fl (encI true) v6, 1⟩]) ok_spec_l07Sorted (law_spec_l07Sorted e6) (.cons (.slq ekI rfl rfl) (.cons .int .nil)) (.lst (ekI.fown _)) rfl ?_)
     refine rl.run 1 rfl (rl.done (RW.reg (rl.run 3 rfl (rl.done ?_))))
     cases h14
     exact hB1 _ rfl _ _ (Gh.ren0 [2] (.same rfl (ekI.fref _ _) .nil) rfl (.cons rfl (.dat (ek_TItem.rlst)) (.cons rfl (.dat .int) (.cons rfl (.slq rfl rfl) (.cons rfl (.dat .int) .nil)))))
 ·intro y2 hC
  subst hC
  refine RW.sreg (rl.run 2 rfl (rl.done (RW.seq (RW.sreg (rl.run 1 rfl (rl.done ?_))))))
  refine RW.gh (Gh.nil_t 10 3 rfl) ?_
  obtain ⟨y17, ey17, h16⟩ := bindS h2
  refine RW.cutq (σ := (List TMail)) (fun y9 => [(10, .sl 0 0 y9.length)]) (fun y9 => [some ⟨fl (enc_TMail true) y9, 3⟩]) (fun y => y17 = y) (fun _ _ _ _ g h => RW.gh g h) ?_ ?_
  ·refine RW.blk ?_
   refine RW.iter (σ := Int × (List TMail)) ey17 (fun s8 => [(0, L_TItem x0), (1, .j x1), (5, .sl 0 0 y7.length), (10, .sl 1 0 s8.2.length), (11, .j s8.1)]) (fun s8 => [some ⟨fl (encI true) y7, 1⟩, some ⟨fl (enc_TMail true) s8.2, 3⟩]) (Gh.ren0 [0, 1] (.same rfl (ekI.fref _ _) (.same rfl (ek_TMail.fref _ _) .nil)) rfl (.cons rfl (.dat (ek_TItem.rlst)) (.cons rfl (.dat .int) (.cons rfl (.slq rfl rfl) (.cons rfl (.slq rfl rfl) (.cons rfl (.dat .int) .nil)))))) (fun s8 B o hS15 hB15 hE15 => ?_)
   unfold S_spec_l07Mails_2 at hS15
   refine RW.seq (RW.sreg (rl.run 3 rfl ?_))
   refine rl.gen rfl rfl fun b hb => ?_
   cases b
   ·have h17 := iteBF hS15 hb
    refine rl.done (RW.cond_f rfl (RW.exit (blkA_eq ?_)))
    cases h17
    exact ⟨_, (hE15 _ rfl).symm, (Gh.ren0 [1] (.same rfl (ek_TMail.fref _ _) .nil) rfl (.cons rfl (.slq rfl rfl) .nil))⟩
   ·have h18 := iteBT hS15 hb
    refine rl.done (RW.cond_t rfl (RW.skip (RW.seq (RW.blk (RW.sreg (rl.run 4 rfl ?_))))))
    obtain ⟨v10, e10, h19⟩ := bindS h18
    refine rl.op (x_ia_sl rfl rfl rfl rfl e10) ?_
    refine rl.op (x_ld_sl (o := true) (off' := 0) ekI rfl rfl e10 rfl rfl rfl) ?_
    obtain ⟨v11, e11, h20⟩ := bindS h19
    refine rl.call rfl rfl rfl (CallW.val (r' := .tup [.agg (enc_TItem false v11.1), .bool v11.2]) ok_spec_l07Best (law_spec_l07Best e11) (.cons (.lst ek_TItem) (.cons .int (.cons .int (.cons .int .nil)))) (FlL.tup (.cons .refl (.cons .refl .nil))) ?_)
    refine rl.run 6 rfl (rl.done ?_)
    refine RW.kp [0, 1, 5, 10, 11, 12] [(0, L_TItem x0), (1, .j x1), (5, .sl 0 0 y7.length), (10, .sl 1 0 s8.2.length), (11, .j s8.1), (12, .ptr 2 0)] [some ⟨fl (encI true) y7, 1⟩, some ⟨fl (enc_TMail true) s8.2, 3⟩, some ⟨[.j v11.1.Seq, .j v11.1.Rec.Kind, .j v11.1.Rec.Valid, .j v11.1.Rec.Uid, .j v11.1.Rec.Next, .j v11.1.Rec.Flags, .str v11.1.Rec.User, .str v11.1.Rec.Name, .str v11.1.Rec.Text], 0⟩] rfl rfl ?_
    refine RW.sdrw (rdraw.op rfl rfl (rdraw.op rfl rfl ?_))
    obtain ⟨v12, e12, h21⟩ := bindS h20
    refine rdraw.op rfl (x_ia_sl rfl rfl rfl rfl e12) ?_
    refine rdraw.op rfl (x_ld_sl (o := true) (off' := 0) ekI rfl rfl e12 rfl rfl rfl) ?_
    refine rdraw.op rfl rfl (rdraw.op rfl rfl (rdraw.op rfl rfl (rdraw.op rfl rfl (rdraw.op rfl rfl (rdraw.op rfl rfl (rdraw.op rfl rfl ?_))))))
    refine rdraw.chnB rfl rfl (.here (.rx rfl) (.here (.rx rfl) (.here (.rx rfl) (.here (.rx rfl) (.here (.rx rfl) (.here (.rx rfl) (.here (.rx rfl) (.here (.rx (x_ld_sl (o := true) (off' := 0) ekI rfl rfl e12 rfl rfl rfl)) (.here (.rx (x_ia_sl rfl rfl rfl rfl e12)) (.here (.rx rfl) (.here (.rx rfl) .nil))))))))))) ?_
    refine rdraw.chn rfl rfl ?_
    refine rdraw.done ?_
    refine RW.kp [0, 1, 5, 10, 11, 14] [(0, L_TItem x0), (1, .j x1), (5, .sl 0 0 y7.length), (10, .sl 1 0 s8.2.length), (11, .j s8.1), (14, .ptr 3 0)] [some ⟨fl (encI true) y7, 1⟩, some ⟨fl (enc_TMail true) s8.2, 3⟩, some ⟨[.j v11.1.Seq, .j v11.1.Rec.Kind, .j v11.1.Rec.Valid, .j v11.1.Rec.Uid, .j v11.1.Rec.Next, .j v11.1.Rec.Flags, .str v11.1.Rec.User, .str v11.1.Rec.Name, .str v11.1.Rec.Text], 0⟩, some ⟨[.j v12, .j v11.1.Rec.Flags, .str v11.1.Rec.Text], 0⟩] rfl rfl ?_
    refine RW.sreg (rl.run 4 rfl ?_)
    obtain ⟨v13, e13, h22⟩ := bindS h21
    refine rl.op (x_ia_sl rfl rfl rfl rfl e13) ?_
    refine rl.op (x_ld_sl (o := true) (off' := 0) ekI rfl rfl e13 rfl rfl rfl) ?_
    obtain ⟨v14, e14, h23⟩ := bindS h22
    refine rl.call rfl rfl rfl (CallW.val (r' := .tup [.agg (enc_TItem false v14.1), .bool v14.2]) ok_spec_l07Best (law_spec_l07Best e14) (.cons (.lst ek_TItem) (.cons .int (.cons .int (.cons .int .nil)))) (FlL.tup (.cons .refl (.cons .refl .nil))) ?_)
    refine rl.run 6 rfl (rl.done (RW.seq (RW.sreg (rl.run 1 rfl (rl.done ?_)))))
    refine RW.kp [0, 1, 5, 10, 11, 14, 15, 92] [(0, L_TItem x0), (1, .j x1), (5, .sl 0 0 y7.length), (10, .sl 1 0 s8.2.length), (11, .j s8.1), (14, .ptr 3 0), (15, .ptr 4 0), (92, .bool v14.2)] [some ⟨fl (encI true) y7, 1⟩, some ⟨fl (enc_TMail true) s8.2, 3⟩, some ⟨[.j v11.1.Seq, .j v11.1.Rec.Kind, .j v11.1.Rec.Valid, .j v11.1.Rec.Uid, .j v11.1.Rec.Next, .j v11.1.Rec.Flags, .str v11.1.Rec.User, .str v11.1.Rec.Name, .str v11.1.Rec.Text], 0⟩, some ⟨[.j v12, .j v11.1.Rec.Flags, .str v11.1.Rec.Text], 0⟩, some ⟨[.j v14.1.Seq, .j v14.1.Rec.Kind, .j v14.1.Rec.Valid, .j v14.1.Rec.Uid, .j v14.1.Rec.Next, .j v14.1.Rec.Flags, .str v14.1.Rec.User, .str v14.1.Rec.Name, .str v14.1.Rec.Text], 0⟩] rfl rfl ?_
    obtain ⟨y15, ey15, h24⟩ := bindS h23
    refine RW.cutq (σ := Int) (fun y15 => [(0, L_TItem x0), (1, .j x1), (5, .sl 0 0 y7.length), (10, .sl 1 0 s8.2.length), (11, .j s8.1), (14, .ptr 2 0)]) (fun y15 => [some ⟨fl (encI true) y7, 1⟩, some ⟨fl (enc_TMail true) s8.2, 3⟩, some ⟨[.j v12, .j y15, .str v11.1.Rec.Text], 0⟩]) (fun y => y15 = y) (fun _ _ _ _ g h => RW.gh g h) ?_ ?_
    ·cases hb : v14.2
     ·have h25 := iteBF ey15 hb
      refine RW.cond_f rfl (RW.skip ?_)
      cases h25
      exact ⟨_, rfl, (Gh.ren0 [0, 1, 3] (.same rfl (ekI.fref _ _) (.same rfl (ek_TMail.fref _ _) (.cells rfl rfl (.keep .int (.keep .int (.keep .str .nil))) .nil))) rfl (.cons rfl (.dat (ek_TItem.rlst)) (.cons rfl (.dat .int) (.cons rfl (.slq rfl rfl) (.cons rfl (.slq rfl rfl) (.cons rfl (.dat .int) (.cons rfl (.ptr rfl) .nil)))))))⟩
     ·have h26 := iteBT ey15 hb
      refine RW.cond_t rfl (RW.reg (rl.run 5 rfl (rl.done ?_)))
      cases h26
      exact ⟨_, rfl, (Gh.ren0 [0, 1, 3] (.same rfl (ekI.fref _ _) (.same rfl (ek_TMail.fref _ _) (.cells rfl rfl (.keep .int (.keep .int (.keep .str .nil))) .nil))) rfl (.cons rfl (.dat (ek_TItem.rlst)) (.cons rfl (.dat .int) (.cons rfl (.slq rfl rfl) (.cons rfl (.slq rfl rfl) (.cons rfl (.dat .int) (.cons rfl (.ptr rfl) .nil)))))))⟩
    ·intro y hC
     subst hC
     refine RW.reg (rl.run 3 rfl ?_)
     obtain ⟨v16, e16, h27⟩ := bindS h24
     refine rl.op (x_app rfl rfl (rapp_sl (l := s8.2) (m := [({ Uid := v12, Flags := y15, Text := v11.1.Rec.Text } : TMail)]) (o := true) ek_TMail rfl rfl (acont_slq (m := [({ Uid := v12, Flags := y15, Text := v11.1.Rec.Text } : TMail)]) (o := true) fk_TMail rfl rfl) rfl (fk_TMail.fst _ _) e16)) ?_
     refine rl.run 1 rfl (rl.done (RW.reg (rl.run 3 rfl (rl.done ?_))))
     cases h27
     exact hB15 _ rfl _ _ (Gh.ren0 [0, 4] (.same rfl (ekI.fref _ _) (.same rfl (ek_TMail.fref _ _) .nil)) rfl (.cons rfl (.dat (ek_TItem.rlst)) (.cons rfl (.dat .int) (.cons rfl (.slq rfl rfl) (.cons rfl (.slq rfl rfl) (.cons rfl (.dat .int) .nil))))))
  ·intro y9 hC
   subst hC
   refine RW.sreg (rl.run 2 rfl (rl.done (RW.ret ?_)))
   cases h16
   exact RRet.mk rfl (OutR.ownq ek_TMail rfl rfl) (by first | decide | simp)
set_option maxHeartbeats 2000000 in
theorem law_spec_StateOf {x0 : List TItem} {r : TState} (hF : F_spec_StateOf x0 = some r) : PCalls Try.prog 29 [L_TItem x0] (.agg (enc_TState true r)) := by
 refine PCalls.of_r k_spec_StateOf rfl ?_
 unfold F_spec_StateOf at hF
 refine RW.sreg (rl.run 1 rfl (rl.done (RW.sreg (rl.run 3 rfl (rl.done (RW.seq (RW.sreg (rl.run 1 rfl ?_))))))))
 obtain ⟨v1, e1, h1⟩ := bindS hF
 refine rl.call rfl rfl rfl (CallW.val (r' := .bool v1) ok_spec_ItemsOk (law_spec_ItemsOk e1) (.cons (.lst ek_TItem) .nil) .refl ?_)
 cases hb : v1
 ·have h2 := iteBF h1 hb
  refine rl.run 1 rfl (rl.done (RW.cond_t rfl (RW.sreg (rl.run 2 rfl (rl.done (RW.ret ?_))))))
  cases h2
  exact RRet.mk rfl (OutL.agg (.cons (OutR.nil (enc := enc_TBox)) rfl .nil)) (by first | decide | simp)
 ·have h3 := iteBT h1 hb
  refine rl.run 1 rfl (rl.done (RW.cond_f rfl (RW.skip (RW.sreg (rl.run 2 rfl (rl.done (RW.seq (RW.sreg (rl.run 1 rfl (rl.done ?_))))))))))
  refine RW.gh (Gh.nil_t 4 1 rfl) ?_
  obtain ⟨y7, ey7, h5⟩ := bindS h3
  refine RW.cutq (σ := (List Int)) (fun y3 => [(0, L_TItem x0), (2, .ptr 0 0), (3, .ptr 1 0), (4, .sl 2 0 y3.length)]) (fun y3 => [some ⟨[.nils], 0⟩, some ⟨[.nils], 0⟩, some ⟨fl (encI true) y3, 1⟩]) (fun y => y7 = y) (fun _ _ _ _ g h => RW.gh g h) ?_ ?_
  ·refine RW.blk ?_
   refine RW.iter (σ := Int × (List Int)) ey7 (fun s2 => [(0, L_TItem x0), (2, .ptr 0 0), (3, .ptr 1 0), (4, .sl 2 0 s2.2.length), (5, .j s2.1)]) (fun s2 => [some ⟨[.nils], 0⟩, some ⟨[.nils], 0⟩, some ⟨fl (encI true) s2.2, 1⟩]) (Gh.ren0 [0, 1, 2] (.cells rfl rfl (.keep .nils .nil) (.cells rfl rfl (.keep .nils .nil) (.same rfl (ekI.fref _ _) .nil))) rfl (.cons rfl (.dat (ek_TItem.rlst)) (.cons rfl (.ptr rfl) (.cons rfl (.ptr rfl) (.cons rfl (.slq rfl rfl) (.cons rfl (.dat .int) .nil)))))) (fun s2 B o hS4 hB4 hE4 => ?_)
   unfold S_spec_StateOf_1 at hS4
   refine RW.seq (RW.sreg (rl.run 3 rfl ?_))
   refine rl.gen rfl rfl fun b hb => ?_
   cases b
   ·have h6 := iteBF hS4 hb
    refine rl.done (RW.cond_f rfl (RW.exit (blkA_eq ?_)))
    cases h6
    exact ⟨_, (hE4 _ rfl).symm, (Gh.ren0 [0, 1, 2] (.cells rfl rfl (.keep .nils .nil) (.cells rfl rfl (.keep .nils .nil) (.same rfl (ekI.fref _ _) .nil))) rfl (.cons rfl (.dat (ek_TItem.rlst)) (.cons rfl (.ptr rfl) (.cons rfl (.ptr rfl) (.cons rfl (.slq rfl rfl) .nil)))))⟩
   ·have h7 := iteBT hS4 hb
    refine rl.done (RW.cond_t rfl (RW.skip (RW.seq (RW.blk (RW.sreg (rl.run 2 rfl ?_))))))
    obtain ⟨v4, e4, h8⟩ := bindS h7
    refine rl.op (x_ia_lst (enc := enc_TItem) (o := false) rfl rfl rfl e4) ?_
    refine rl.run 1 rfl ?_
    refine rl.op (x_ld_ela (off' := 1) (vs := (enc_TRec false v4.Rec)) ek_TItem rfl e4 rfl rfl rfl) ?_
    refine rl.run 2 rfl (rl.done (RW.sreg (rl.run 3 rfl ?_)))
    obtain ⟨v5, e5, h9⟩ := bindS h8
    refine rl.call rfl rfl rfl (CallW.val (r' := .tup [.agg (enc_TItem false v5.1), .bool v5.2]) ok_spec_l07Best (law_spec_l07Best e5) (.cons (.lst ek_TItem) (.cons .int (.cons .int (.cons .int .nil)))) (FlL.tup (.cons .refl (.cons .refl .nil))) ?_)
    refine rl.run 6 rfl (rl.done ?_)
    refine RW.kp [0, 2, 3, 4, 5, 6, 8] [(0, L_TItem x0), (2, .ptr 0 0), (3, .ptr 1 0), (4, .sl 2 0 s2.2.length), (5, .j s2.1), (6, .ptr 3 0), (8, .bool v5.2)] [some ⟨[.nils], 0⟩, some ⟨[.nils], 0⟩, some ⟨fl (encI true) s2.2, 1⟩, some ⟨[.j v4.Rec.Kind, .j v4.Rec.Valid, .j v4.Rec.Uid, .j v4.Rec.Next, .j v4.Rec.Flags, .str v4.Rec.User, .str v4.Rec.Name, .str v4.Rec.Text], 0⟩, some ⟨[.j v5.1.Seq, .j v5.1.Rec.Kind, .j v5.1.Rec.Valid, .j v5.1.Rec.Uid, .j v5.1.Rec.Next, .j v5.1.Rec.Flags, .str v5.1.Rec.User, .str v5.1.Rec.Name, .str v5.1.Rec.Text], 0⟩] rfl rfl ?_
    refine RW.sreg (rl.run 2 rfl ?_)
    refine rl.gen rfl rfl fun b hb => ?_
    cases b
    ·have h10 := iteBF h9 hb
     refine rl.run 4 rfl (rl.done (RW.cond_f rfl (RW.skip (RW.reg (rl.run 3 rfl (rl.done ?_))))))
     cases h10
     exact hB4 _ rfl _ _ (Gh.ren0 [0, 1, 2] (.cells rfl rfl (.keep .nils .nil) (.cells rfl rfl (.keep .nils .nil) (.same rfl (ekI.fref _ _) .nil))) rfl (.cons rfl (.dat (ek_TItem.rlst)) (.cons rfl (.ptr rfl) (.cons rfl (.ptr rfl) (.cons rfl (.slq rfl rfl) (.cons rfl (.dat .int) .nil))))))
    ·have h11 := iteBT h9 hb
     refine rl.run 4 rfl (rl.done ?_)
     cases hb : (!v5.2)
     ·have h12 := iteBF h11 hb
      refine RW.cond_f rfl (RW.skip (RW.reg (rl.run 3 rfl (rl.done ?_))))
      cases h12
      exact hB4 _ rfl _ _ (Gh.ren0 [0, 1, 2] (.cells rfl rfl (.keep .nils .nil) (.cells rfl rfl (.keep .nils .nil) (.same rfl (ekI.fref _ _) .nil))) rfl (.cons rfl (.dat (ek_TItem.rlst)) (.cons rfl (.ptr rfl) (.cons rfl (.ptr rfl) (.cons rfl (.slq rfl rfl) (.cons rfl (.dat .int) .nil))))))
     ·have h13 := iteBT h11 hb
      refine RW.cond_t rfl (RW.reg (rl.run 3 rfl ?_))
      obtain ⟨v6, e6, h14⟩ := bindS h13
      refine rl.call rfl rfl rfl (CallW.own (r' := .sl 5 0 v6.length) (H' := [some ⟨[.nils], 0⟩, some ⟨[.nils], 0⟩, some ⟨fl (encI true) s2.2, 1⟩, some ⟨[.j v4.Rec.Kind, .j v4.Rec.Valid, .j v4.Rec.Uid, .j v4.Rec.Next, .j v4.Rec.Flags, .str v4.Rec.User, .str v4.Rec.Name, .str v4.Rec.Text], 0⟩, some ⟨[.j v5.1.Seq, .j v5.1.Rec.Kind, .j v5.1.Rec.Valid, .j v5.1.Rec.Uid, .j v5.1.Rec.Next, .j v5.1.Rec.Flags, .str v5.1.Rec.User, .str v5.1.Rec.Name, .str v5.1.Rec.Text], 0⟩, some ⟨fl (encI true) v6, 1⟩]) ok_spec_l07Sorted (law_spec_l07Sorted e6) (.cons (.slq ekI rfl rfl) (.cons .int .nil)) (.lst (ekI.fown _)) rfl ?_)
      refine rl.run 1 rfl (rl.done (RW.reg (rl.run 3 rfl (rl.done ?_))))
      cases h14
      exact hB4 _ rfl _ _ (Gh.ren0 [0, 1, 5] (.cells rfl rfl (.keep .nils .nil) (.cells rfl rfl (.keep .nils .nil) (.same rfl (ekI.fref _ _) .nil))) rfl (.cons rfl (.dat (ek_TItem.rlst)) (.cons rfl (.ptr rfl) (.cons rfl (.ptr rfl) (.cons rfl (.slq rfl rfl) (.cons rfl (.dat .int) .nil))))))
  ·intro y3 hC
   subst hC
   refine RW.seq (RW.sreg (rl.run 1 rfl (rl.done ?_)))
   refine RW.gh (Gh.nil_c 1 0 5 rfl rfl) ?_
   obtain ⟨y18, ey18, h16⟩ := bindS h5
   refine RW.cutq (σ := (List TBox)) (fun y9 => [(2, .ptr 0 0), (3, .ptr 1 0)]) (fun y9 => [some ⟨[.nils], 0⟩, some ⟨[.sl 2 0 y9.length], 0⟩, some ⟨fl (enc_TBox true) y9, 5⟩]) (fun y => y18 = y) (fun _ _ _ _ g h => RW.gh g h) ?_ ?_
   ·refine RW.blk ?_
    refine RW.iter (σ := Int × (List TBox)) ey18 (fun s8 => [(0, L_TItem x0), (2, .ptr 0 0), (3, .ptr 1 0), (4, .sl 2 0 y7.length), (9, .j s8.1)]) (fun s8 => [some ⟨[.nils], 0⟩, some ⟨[.sl 3 0 s8.2.length], 0⟩, some ⟨fl (encI true) y7, 1⟩, some ⟨fl (enc_TBox true) s8.2, 5⟩]) (Gh.ren0 [0, 1, 2, 3] (.cells rfl rfl (.keep .nils .nil) (.cells rfl rfl (.slq rfl rfl .nil) (.same rfl (ekI.fref _ _) (.same rfl (ek_TBox.fref _ _) .nil)))) rfl (.cons rfl (.dat (ek_TItem.rlst)) (.cons rfl (.ptr rfl) (.cons rfl (.ptr rfl) (.cons rfl (.slq rfl rfl) (.cons rfl (.dat .int) .nil)))))) (fun s8 B o hS15 hB15 hE15 => ?_)
    unfold S_spec_StateOf_2 at hS15
    refine RW.seq (RW.sreg (rl.run 3 rfl ?_))
    refine rl.gen rfl rfl fun b hb => ?_
    cases b
    ·have h17 := iteBF hS15 hb
     refine rl.done (RW.cond_f rfl (RW.exit (blkA_eq ?_)))
     cases h17
     exact ⟨_, (hE15 _ rfl).symm, (Gh.ren0 [0, 1, 3] (.cells rfl rfl (.keep .nils .nil) (.cells rfl rfl (.slq rfl rfl .nil) (.same rfl (ek_TBox.fref _ _) .nil))) rfl (.cons rfl (.ptr rfl) (.cons rfl (.ptr rfl) .nil)))⟩
    ·have h18 := iteBT hS15 hb
     refine rl.done (RW.cond_t rfl (RW.skip (RW.seq (RW.blk (RW.sreg (rl.run 3 rfl ?_))))))
     obtain ⟨v10, e10, h19⟩ := bindS h18
     refine rl.op (x_ia_sl rfl rfl rfl rfl e10) ?_
     refine rl.op (x_ld_sl (o := true) (off' := 0) ekI rfl rfl e10 rfl rfl rfl) ?_
     obtain ⟨v11, e11, h20⟩ := bindS h19
     refine rl.call rfl rfl rfl (CallW.val (r' := .agg (enc_TItem false v11)) ok_spec_l07Tell (law_spec_l07Tell e11) (.cons (.lst ek_TItem) (.cons .int .nil)) .refl ?_)
     refine rl.run 2 rfl (rl.done (RW.drw (rdraw.op rfl rfl (rdraw.op rfl rfl (rdraw.op rfl rfl (rdraw.op rfl rfl ?_))))))
     obtain ⟨v12, e12, h21⟩ := bindS h20
     refine rdraw.op rfl (x_ia_sl rfl rfl rfl rfl e12) ?_
     refine rdraw.op rfl (x_ld_sl (o := true) (off' := 0) ekI rfl rfl e12 rfl rfl rfl) ?_
     refine rdraw.op rfl rfl (rdraw.op rfl rfl (rdraw.op rfl rfl (rdraw.op rfl rfl (rdraw.op rfl rfl (rdraw.op rfl rfl (rdraw.op rfl rfl (rdraw.op rfl rfl (rdraw.op rfl rfl ?_))))))))
     obtain ⟨v13, e13, h22⟩ := bindS h21
     refine rdraw.op rfl (x_ia_sl rfl rfl rfl rfl e13) ?_
     refine rdraw.op rfl (x_ld_sl (o := true) (off' := 0) ekI rfl rfl e13 rfl rfl rfl) ?_
     obtain ⟨v14, e14, h23⟩ := bindS h22
     refine rdraw.call rfl rfl rfl (CallW.val (r' := .j v14) ok_spec_l07Next (law_spec_l07Next e14) (.cons (.lst ek_TItem) (.cons .int .nil)) .refl ⟨rfl, ?_⟩)
     refine rdraw.op rfl rfl (rdraw.op rfl rfl (rdraw.op rfl rfl ?_))
     obtain ⟨v15, e15, h24⟩ := bindS h23
     refine rdraw.op rfl (x_ia_sl rfl rfl rfl rfl e15) ?_
     refine rdraw.op rfl (x_ld_sl (o := true) (off' := 0) ekI rfl rfl e15 rfl rfl rfl) ?_
     obtain ⟨v16, e16, h25⟩ := bindS h24
     refine rdraw.ccallB rfl rfl rfl (CallW.own (r' := .sl 5 0 v16.length) (H' := [some ⟨[.nils], 0⟩, some ⟨[.sl 3 0 s8.2.length], 0⟩, some ⟨fl (encI true) y7, 1⟩, some ⟨fl (enc_TBox true) s8.2, 5⟩, some ⟨[.j v11.Seq, .j v11.Rec.Kind, .j v11.Rec.Valid, .j v11.Rec.Uid, .j v11.Rec.Next, .j v11.Rec.Flags, .str v11.Rec.User, .str v11.Rec.Name, .str v11.Rec.Text], 0⟩, some ⟨fl (enc_TMail true) v16, 3⟩]) ok_spec_l07Mails (law_spec_l07Mails e16) (.cons (.lst ek_TItem) (.cons .int .nil)) (.lst (ek_TMail.fown _)) rfl ⟨(.skip rfl (.skip rfl (.skip rfl (.skip rfl (.skip rfl (.skip rfl (.skip rfl (.skip rfl (.skip rfl (.skip rfl (.skip rfl (.here (.rx rfl) (.here (.rx rfl) (.here (.rx rfl) (.here (.rx rfl) (.here (.rx rfl) (.here (.rx rfl) (.here (.rx (x_ld_sl (o := true) (off' := 0) ekI rfl rfl e12 rfl rfl rfl)) (.here (.rx (x_ia_sl rfl rfl rfl rfl e12)) (.here (.rx rfl) (.here (.rx rfl) (.here (.rx rfl) (.here (.rx rfl) .nil))))))))))))))))))))))), ?_⟩)
     refine rdraw.op rfl rfl ?_
     refine rdraw.chnB rfl rfl (.skip rfl (.skip rfl (.skip rfl (.skip rfl (.skip rfl (.skip rfl (.skip rfl (.skip rfl (.skip rfl (.skip rfl (.skip rfl (.skip rfl (.skip rfl (.skip rfl (.skip rfl (.skip rfl (.skip rfl (.skip rfl (.skip rfl (.skip rfl (.skip rfl (.skip rfl (.here (.rx rfl) (.here (.rx rfl) .nil)))))))))))))))))))))))) ?_
     obtain ⟨v17, e17, h26⟩ := bindS h25
     refine rdraw.chn rfl (x_app rfl rfl (rapp_raw ek_TBox rfl rfl (acont_one rfl rfl rfl) e17)) ?_
     refine rdraw.op rfl rfl ?_
     refine rdraw.chn rfl rfl ?_
     refine rdraw.done ?_
     refine RW.gh (Gh.absorb_rawq (b := 7) (j := 4) (m := 5) rfl rfl rfl (by decide) (by decide) rfl (ek_TMail.flen true _) (ek_TMail.fown _)) ?_
     refine RW.gh (Gh.blk (b := 7) rfl (raw_app (enc := enc_TBox) e17 rfl)) ?_
     refine RW.reg (rl.run 3 rfl (rl.done ?_))
     cases h26
     exact hB15 _ rfl _ _ (Gh.ren0 [0, 1, 2, 7] (.cells rfl rfl (.keep .nils .nil) (.cells rfl rfl (.slq rfl rfl .nil) (.same rfl (ekI.fref _ _) (.same rfl (ek_TBox.fref _ _) .nil)))) rfl (.cons rfl (.dat (ek_TItem.rlst)) (.cons rfl (.ptr rfl) (.cons rfl (.ptr rfl) (.cons rfl (.slq rfl rfl) (.cons rfl (.dat .int) .nil))))))
   ·intro y9 hC
    subst hC
    refine RW.sreg (rl.run 2 rfl (rl.done (RW.ret ?_)))
    cases h16
    exact RRet.mk rfl (OutL.agg (.cons (OutR.ownq ek_TBox rfl rfl) rfl .nil)) (by first | decide | simp)
theorem law_impl_Needed {x0 : List TItem} {x1 : Int} {r : Bool} (hF : F_impl_Needed x0 x1 = some r) : PCalls Try.prog 31 [L_TItem x0, .j x1] (.bool r) := by
 refine PCalls.of_r k_impl_Needed rfl ?_
 unfold F_impl_Needed at hF
 refine RW.sreg (rl.run 1 rfl (rl.done (RW.seq ?_)))
 obtain ⟨y1, ey1, h1⟩ := bindS hF
 refine RW.cutq (σ := Bool) (fun y1 => [(4, .bool y1)]) (fun y1 => []) (fun y => y1 = y) (fun _ _ _ _ g h => RW.gh g h) ?_ ?_
 ·refine RW.reg ?_
  refine rl.run 1 rfl ?_
  obtain ⟨v2, e2, h2⟩ := bindS ey1
  refine rl.call rfl rfl rfl (CallW.val (r' := .bool v2) ok_impl_ItemsOk (law_impl_ItemsOk e2) (.cons (.lst ek_TItem) .nil) .refl ?_)
  cases hb : v2
  ·have h3 := iteBF h2 hb
   refine rl.run 13 rfl (rl.done ?_)
   cases h3
   exact ⟨_, rfl, (Gh.ren0 [] .nil rfl (.cons rfl (.dat .bool) .nil))⟩
  ·have h4 := iteBT h2 hb
   refine rl.run 5 rfl ?_
   obtain ⟨v3, e3, h5⟩ := bindS h4
   refine rl.call rfl rfl rfl (CallW.val (r' := .bool v3) ok_impl_in (law_impl_in e3) (.cons .int (.cons .int (.cons .int .nil))) .refl ?_)
   cases hb : v3
   ·have h6 := iteBF h5 hb
    refine rl.run 7 rfl (rl.done ?_)
    cases h6
    exact ⟨_, rfl, (Gh.ren0 [] .nil rfl (.cons rfl (.dat .bool) .nil))⟩
   ·have h7 := iteBT h5 hb
    refine rl.run 4 rfl ?_
    obtain ⟨v4, e4, h8⟩ := bindS h7
    refine rl.call rfl rfl rfl (CallW.val (r' := .bool v4) ok_impl_needed (law_impl_needed e4) (.cons (.lst ek_TItem) (.cons .int .nil)) .refl ?_)
    refine rl.run 2 rfl (rl.done ?_)
    cases h8
    exact ⟨_, rfl, (Gh.ren0 [] .nil rfl (.cons rfl (.dat .bool) .nil))⟩
 ·intro y hC
  subst hC
  refine RW.ret ?_
  cases h1
  exact RRet.mk rfl .bool (by first | decide | simp)
set_option maxHeartbeats 2000000 in
theorem law_spec_SameState {x0 : TState} {x1 : TState} {r : Bool} (hF : F_spec_SameState x0 x1 = some r) : PCalls Try.prog 32 [.agg (enc_TState false x0), .agg (enc_TState false x1)] (.bool r) := by
 refine PCalls.of_r k_spec_SameState rfl ?_
 unfold F_spec_SameState at hF
 refine RW.sreg (rl.run 3 rfl (rl.done (RW.seq (RW.sreg (rl.run 6 rfl ?_)))))
 refine rl.gen rfl rfl fun b hb => ?_
 cases b
 ·have h1 := iteBF hF hb
  refine rl.done (RW.cond_f rfl (RW.skip (RW.seq (RW.sreg (rl.run 1 rfl (rl.done ?_))))))
  obtain ⟨y11, ey11, h3⟩ := bindS h1
  refine RW.cutq (σ := Unit) (fun y2 => []) (fun y2 => []) (fun y => y11 = .inr y) (fun _ _ _ _ g h => RW.gh g h) ?_ ?_
  ·refine RW.blk ?_
   refine RW.iter (σ := Int) ey11 (fun s1 => [(2, .ptr 0 0), (3, .ptr 1 0), (5, .j s1)]) (fun s1 => [some ⟨[L_TBox x0.Boxes], 0⟩, some ⟨[L_TBox x1.Boxes], 0⟩]) (Gh.ren0 [0, 1] (.cells rfl rfl (.keep (ek_TBox.rlst) .nil) (.cells rfl rfl (.keep (ek_TBox.rlst) .nil) .nil)) rfl (.cons rfl (.ptr rfl) (.cons rfl (.ptr rfl) (.cons rfl (.dat .int) .nil)))) (fun s1 B o hS2 hB2 hE2 => ?_)
   unfold S_spec_SameState_1 at hS2
   refine RW.seq (RW.sreg (rl.run 4 rfl ?_))
   refine rl.gen rfl rfl fun b hb => ?_
   cases b
   ·have h4 := iteBF hS2 hb
    refine rl.done (RW.cond_f rfl (RW.exit (blkA_eq ?_)))
    cases h4
    exact ⟨_, (hE2 _ rfl).symm, (Gh.ren0 [] .nil rfl .nil)⟩
   ·have h5 := iteBT hS2 hb
    refine rl.done (RW.cond_t rfl (RW.skip (RW.seq (RW.blk (RW.sreg (rl.run 3 rfl ?_))))))
    obtain ⟨v3, e3, h6⟩ := bindS h5
    refine rl.op (x_ia_lst (enc := enc_TBox) (o := false) rfl rfl rfl e3) ?_
    refine rl.op (x_ld_ela (off' := 0) (vs := (enc_TBox false v3)) ek_TBox rfl e3 rfl rfl rfl) ?_
    refine rl.run 2 rfl (rl.done (RW.sreg (rl.run 3 rfl ?_)))
    obtain ⟨v4, e4, h7⟩ := bindS h6
    refine rl.op (x_ia_lst (enc := enc_TBox) (o := false) rfl rfl rfl e4) ?_
    refine rl.op (x_ld_ela (off' := 0) (vs := (enc_TBox false v4)) ek_TBox rfl e4 rfl rfl rfl) ?_
    refine rl.run 2 rfl (rl.done ?_)
    refine RW.kp [2, 3, 5, 6, 7] [(2, .ptr 0 0), (3, .ptr 1 0), (5, .j s1), (6, .ptr 2 0), (7, .ptr 3 0)] [some ⟨[L_TBox x0.Boxes], 0⟩, some ⟨[L_TBox x1.Boxes], 0⟩, some ⟨[.j v3.Valid, .str v3.User, .str v3.Name, .j v3.Next, L_TMail v3.Mails], 0⟩, some ⟨[.j v4.Valid, .str v4.User, .str v4.Name, .j v4.Next, L_TMail v4.Mails], 0⟩] rfl rfl ?_
    refine RW.seq (RW.seq ?_)
    obtain ⟨y5, ey5, h8⟩ := bindS h7
    refine RW.cutq (σ := Bool) (fun y5 => [(2, .ptr 0 0), (3, .ptr 1 0), (5, .j s1), (6, .ptr 2 0), (7, .ptr 3 0), (67, .bool y5)]) (fun y5 => [some ⟨[L_TBox x0.Boxes], 0⟩, some ⟨[L_TBox x1.Boxes], 0⟩, some ⟨[.j v3.Valid, .str v3.User, .str v3.Name, .j v3.Next, L_TMail v3.Mails], 0⟩, some ⟨[.j v4.Valid, .str v4.User, .str v4.Name, .j v4.Next, L_TMail v4.Mails], 0⟩]) (fun y => y5 = y) (fun _ _ _ _ g h => RW.gh g h) ?_ ?_
    ·refine RW.reg ?_
     refine rl.run 4 rfl ?_
     refine rl.gen rfl rfl fun b hb => ?_
     cases b
     ·have h9 := iteBF ey5 hb
      refine rl.run 5 rfl ?_
      refine rl.gen rfl rfl fun b hb => ?_
      cases b
      ·have h10 := iteBF h9 hb
       refine rl.run 6 rfl ?_
       refine rl.gen rfl rfl fun b hb => ?_
       cases b
       ·have h11 := iteBF h10 hb
        refine rl.run 6 rfl ?_
        refine rl.gen rfl rfl fun b hb => ?_
        cases b
        ·have h12 := iteBF h11 hb
         refine rl.run 8 rfl ?_
         refine rl.gen rfl rfl fun b hb => ?_
         cases b
         ·have h13 := iteBF h12 hb
          refine rl.run 1 rfl (rl.done ?_)
          cases h13
          exact ⟨_, rfl, (Gh.ren0 [0, 1, 2, 3] (.cells rfl rfl (.keep (ek_TBox.rlst) .nil) (.cells rfl rfl (.keep (ek_TBox.rlst) .nil) (.cells rfl rfl (.keep .int (.keep .str (.keep .str (.keep .int (.keep (ek_TMail.rlst) .nil))))) (.cells rfl rfl (.keep .int (.keep .str (.keep .str (.keep .int (.keep (ek_TMail.rlst) .nil))))) .nil)))) rfl (.cons rfl (.ptr rfl) (.cons rfl (.ptr rfl) (.cons rfl (.dat .int) (.cons rfl (.ptr rfl) (.cons rfl (.ptr rfl) (.cons rfl (.dat .bool) .nil)))))))⟩
         ·have h14 := iteBT h12 hb
          refine rl.run 1 rfl (rl.done ?_)
          cases h14
          exact ⟨_, rfl, (Gh.ren0 [0, 1, 2, 3] (.cells rfl rfl (.keep (ek_TBox.rlst) .nil) (.cells rfl rfl (.keep (ek_TBox.rlst) .nil) (.cells rfl rfl (.keep .int (.keep .str (.keep .str (.keep .int (.keep (ek_TMail.rlst) .nil))))) (.cells rfl rfl (.keep .int (.keep .str (.keep .str (.keep .int (.keep (ek_TMail.rlst) .nil))))) .nil)))) rfl (.cons rfl (.ptr rfl) (.cons rfl (.ptr rfl) (.cons rfl (.dat .int) (.cons rfl (.ptr rfl) (.cons rfl (.ptr rfl) (.cons rfl (.dat .bool) .nil)))))))⟩
        ·have h15 := iteBT h11 hb
         refine rl.run 10 rfl (rl.done ?_)
         cases h15
         exact ⟨_, rfl, (Gh.ren0 [0, 1, 2, 3] (.cells rfl rfl (.keep (ek_TBox.rlst) .nil) (.cells rfl rfl (.keep (ek_TBox.rlst) .nil) (.cells rfl rfl (.keep .int (.keep .str (.keep .str (.keep .int (.keep (ek_TMail.rlst) .nil))))) (.cells rfl rfl (.keep .int (.keep .str (.keep .str (.keep .int (.keep (ek_TMail.rlst) .nil))))) .nil)))) rfl (.cons rfl (.ptr rfl) (.cons rfl (.ptr rfl) (.cons rfl (.dat .int) (.cons rfl (.ptr rfl) (.cons rfl (.ptr rfl) (.cons rfl (.dat .bool) .nil)))))))⟩
       ·have h16 := iteBT h10 hb
        refine rl.run 17 rfl (rl.done ?_)
        cases h16
        exact ⟨_, rfl, (Gh.ren0 [0, 1, 2, 3] (.cells rfl rfl (.keep (ek_TBox.rlst) .nil) (.cells rfl rfl (.keep (ek_TBox.rlst) .nil) (.cells rfl rfl (.keep .int (.keep .str (.keep .str (.keep .int (.keep (ek_TMail.rlst) .nil))))) (.cells rfl rfl (.keep .int (.keep .str (.keep .str (.keep .int (.keep (ek_TMail.rlst) .nil))))) .nil)))) rfl (.cons rfl (.ptr rfl) (.cons rfl (.ptr rfl) (.cons rfl (.dat .int) (.cons rfl (.ptr rfl) (.cons rfl (.ptr rfl) (.cons rfl (.dat .bool) .nil)))))))⟩
      ·have h17 := iteBT h9 hb
       refine rl.run 24 rfl (rl.done ?_)
       cases h17
       exact ⟨_, rfl, (Gh.ren0 [0, 1, 2, 3] (.cells rfl rfl (.keep (ek_TBox.rlst) .nil) (.cells rfl rfl (.keep (ek_TBox.rlst) .nil) (.cells rfl rfl (.keep .int (.keep .str (.keep .str (.keep .int (.keep (ek_TMail.rlst) .nil))))) (.cells rfl rfl (.keep .int (.keep .str (.keep .str (.keep .int (.keep (ek_TMail.rlst) .nil))))) .nil)))) rfl (.cons rfl (.ptr rfl) (.cons rfl (.ptr rfl) (.cons rfl (.dat .int) (.cons rfl (.ptr rfl) (.cons rfl (.ptr rfl) (.cons rfl (.dat .bool) .nil)))))))⟩
     ·have h18 := iteBT ey5 hb
      refine rl.run 30 rfl (rl.done ?_)
      cases h18
      exact ⟨_, rfl, (Gh.ren0 [0, 1, 2, 3] (.cells rfl rfl (.keep (ek_TBox.rlst) .nil) (.cells rfl rfl (.keep (ek_TBox.rlst) .nil) (.cells rfl rfl (.keep .int (.keep .str (.keep .str (.keep .int (.keep (ek_TMail.rlst) .nil))))) (.cells rfl rfl (.keep .int (.keep .str (.keep .str (.keep .int (.keep (ek_TMail.rlst) .nil))))) .nil)))) rfl (.cons rfl (.ptr rfl) (.cons rfl (.ptr rfl) (.cons rfl (.dat .int) (.cons rfl (.ptr rfl) (.cons rfl (.ptr rfl) (.cons rfl (.dat .bool) .nil)))))))⟩
    ·intro y hC
     subst hC
     cases hb : y5
     ·have h19 := iteBF h8 hb
      refine RW.cond_f rfl (RW.skip (RW.sreg (rl.run 1 rfl (rl.done ?_))))
      obtain ⟨y10, ey10, h21⟩ := bindS h19
      refine RW.cutq (σ := Unit) (fun y7 => [(2, .ptr 0 0), (3, .ptr 1 0), (5, .j s1)]) (fun y7 => [some ⟨[L_TBox x0.Boxes], 0⟩, some ⟨[L_TBox x1.Boxes], 0⟩]) (fun y => y10 = .inr y) (fun _ _ _ _ g h => RW.gh g h) ?_ ?_
      ·refine RW.blk ?_
       refine RW.iter (σ := Int) ey10 (fun s6 => [(2, .ptr 0 0), (3, .ptr 1 0), (5, .j s1), (6, .ptr 2 0), (7, .ptr 3 0), (8, .j s6)]) (fun s6 => [some ⟨[L_TBox x0.Boxes], 0⟩, some ⟨[L_TBox x1.Boxes], 0⟩, some ⟨[.j v3.Valid, .str v3.User, .str v3.Name, .j v3.Next, L_TMail v3.Mails], 0⟩, some ⟨[.j v4.Valid, .str v4.User, .str v4.Name, .j v4.Next, L_TMail v4.Mails], 0⟩]) (Gh.ren0 [0, 1, 2, 3] (.cells rfl rfl (.keep (ek_TBox.rlst) .nil) (.cells rfl rfl (.keep (ek_TBox.rlst) .nil) (.cells rfl rfl (.keep .int (.keep .str (.keep .str (.keep .int (.keep (ek_TMail.rlst) .nil))))) (.cells rfl rfl (.keep .int (.keep .str (.keep .str (.keep .int (.keep (ek_TMail.rlst) .nil))))) .nil)))) rfl (.cons rfl (.ptr rfl) (.cons rfl (.ptr rfl) (.cons rfl (.dat .int) (.cons rfl (.ptr rfl) (.cons rfl (.ptr rfl) (.cons rfl (.dat .int) .nil))))))) (fun s6 B o hS20 hB20 hE20 => ?_)
       unfold S_spec_SameState_2 at hS20
       refine RW.seq (RW.sreg (rl.run 4 rfl ?_))
       refine rl.gen rfl rfl fun b hb => ?_
       cases b
       ·have h22 := iteBF hS20 hb
        refine rl.done (RW.cond_f rfl (RW.exit (blkA_eq ?_)))
        cases h22
        exact ⟨_, (hE20 _ rfl).symm, (Gh.ren0 [0, 1] (.cells rfl rfl (.keep (ek_TBox.rlst) .nil) (.cells rfl rfl (.keep (ek_TBox.rlst) .nil) .nil)) rfl (.cons rfl (.ptr rfl) (.cons rfl (.ptr rfl) (.cons rfl (.dat .int) .nil))))⟩
       ·have h23 := iteBT hS20 hb
        refine rl.done (RW.cond_t rfl (RW.skip (RW.seq (RW.blk (RW.sdrw (rdraw.op rfl rfl (rdraw.op rfl rfl (rdraw.op rfl rfl ?_))))))))
        obtain ⟨v8, e8, h24⟩ := bindS h23
        refine rdraw.op rfl (x_ia_lst (enc := enc_TMail) (o := false) rfl rfl rfl e8) ?_
        refine rdraw.op rfl (x_ld_ela (off' := 0) (vs := (enc_TMail false v8)) ek_TMail rfl e8 rfl rfl rfl) ?_
        refine rdraw.op rfl rfl (rdraw.op rfl rfl (rdraw.op rfl rfl ?_))
        obtain ⟨v9, e9, h25⟩ := bindS h24
        refine rdraw.op rfl (x_ia_lst (enc := enc_TMail) (o := false) rfl rfl rfl e9) ?_
        refine rdraw.op rfl (x_ld_ela (off' := 0) (vs := (enc_TMail false v9)) ek_TMail rfl e9 rfl rfl rfl) ?_
        refine rdraw.gen rfl rfl fun b hb => ?_
        cases b
        ·have h26 := iteBF h25 hb
         refine rdraw.done ?_
         refine RW.kp [2, 3, 5, 6, 7, 8, 85] [(2, .ptr 0 0), (3, .ptr 1 0), (5, .j s1), (6, .ptr 2 0), (7, .ptr 3 0), (8, .j s6), (85, .bool false)] [some ⟨[L_TBox x0.Boxes], 0⟩, some ⟨[L_TBox x1.Boxes], 0⟩, some ⟨[.j v3.Valid, .str v3.User, .str v3.Name, .j v3.Next, L_TMail v3.Mails], 0⟩, some ⟨[.j v4.Valid, .str v4.User, .str v4.Name, .j v4.Next, L_TMail v4.Mails], 0⟩] rfl rfl ?_
         refine RW.cond_f rfl (RW.skip (RW.reg (rl.run 3 rfl (rl.done ?_))))
         cases h26
         exact hB20 _ rfl _ _ (Gh.ren0 [0, 1, 2, 3] (.cells rfl rfl (.keep (ek_TBox.rlst) .nil) (.cells rfl rfl (.keep (ek_TBox.rlst) .nil) (.cells rfl rfl (.keep .int (.keep .str (.keep .str (.keep .int (.keep (ek_TMail.rlst) .nil))))) (.cells rfl rfl (.keep .int (.keep .str (.keep .str (.keep .int (.keep (ek_TMail.rlst) .nil))))) .nil)))) rfl (.cons rfl (.ptr rfl) (.cons rfl (.ptr rfl) (.cons rfl (.dat .int) (.cons rfl (.ptr rfl) (.cons rfl (.ptr rfl) (.cons rfl (.dat .int) .nil)))))))
        ·have h27 := iteBT h25 hb
         refine rdraw.done ?_
         refine RW.kp [2, 3, 5, 6, 7, 8, 85] [(2, .ptr 0 0), (3, .ptr 1 0), (5, .j s1), (6, .ptr 2 0), (7, .ptr 3 0), (8, .j s6), (85, .bool true)] [some ⟨[L_TBox x0.Boxes], 0⟩, some ⟨[L_TBox x1.Boxes], 0⟩, some ⟨[.j v3.Valid, .str v3.User, .str v3.Name, .j v3.Next, L_TMail v3.Mails], 0⟩, some ⟨[.j v4.Valid, .str v4.User, .str v4.Name, .j v4.Next, L_TMail v4.Mails], 0⟩] rfl rfl ?_
         refine RW.cond_t rfl (RW.sreg (rl.run 1 rfl (rl.done (RW.ret ?_))))
         cases h27
         have h28 := elimL h21 (hE20 _ rfl)
         cases h28
         have h29 := elimL h3 (hE2 _ rfl)
         cases h29
         exact RRet.mk rfl .bool (by first | decide | simp)
      ·intro y7 hC
       have h21 := elimR h21 hC
       refine RW.reg (rl.run 3 rfl (rl.done ?_))
       cases h21
       exact hB2 _ rfl _ _ (Gh.ren0 [0, 1] (.cells rfl rfl (.keep (ek_TBox.rlst) .nil) (.cells rfl rfl (.keep (ek_TBox.rlst) .nil) .nil)) rfl (.cons rfl (.ptr rfl) (.cons rfl (.ptr rfl) (.cons rfl (.dat .int) .nil))))
     ·have h30 := iteBT h8 hb
      refine RW.cond_t rfl (RW.sreg (rl.run 1 rfl (rl.done (RW.ret ?_))))
      cases h30
      have h31 := elimL h3 (hE2 _ rfl)
      cases h31
      exact RRet.mk rfl .bool (by first | decide | simp)
  ·intro y2 hC
   have h3 := elimR h3 hC
   refine RW.sreg (rl.run 1 rfl (rl.done (RW.ret ?_)))
   cases h3
   exact RRet.mk rfl .bool (by first | decide | simp)
 ·have h32 := iteBT hF hb
  refine rl.done (RW.cond_t rfl (RW.sreg (rl.run 1 rfl (rl.done ?_))))
  refine RW.kp [4] [(4, .bool false)] [some ⟨[L_TBox x0.Boxes], 0⟩, some ⟨[L_TBox x1.Boxes], 0⟩] rfl rfl ?_
  refine RW.ret ?_
  cases h32
  exact RRet.mk rfl .bool (by first | decide | simp)
theorem law_laws_flip {x0 : List Bool} {r : List Bool} (hF : F_laws_flip x0 = some r) : PCalls Try.prog 34 [L_O x0] (.lst true 1 (fl (encO true) r) r.length) := by
 refine PCalls.of_r k_laws_flip rfl ?_
 unfold F_laws_flip at hF
 refine RW.sreg (rl.run 1 rfl (rl.done (RW.sreg (rl.run 2 rfl (rl.done (RW.seq (RW.sreg (rl.run 1 rfl (rl.done ?_)))))))))
 refine RW.gh (Gh.nil_t 3 1 rfl) ?_
 obtain ⟨y5, ey5, h2⟩ := bindS hF
 refine RW.cutq (σ := (List Bool)) (fun y2 => [(3, .sl 0 0 y2.length)]) (fun y2 => [some ⟨fl (encO true) y2, 1⟩]) (fun y => y5 = y) (fun _ _ _ _ g h => RW.gh g h) ?_ ?_
 ·refine RW.blk ?_
  refine RW.iter (σ := Int × (List Bool)) ey5 (fun s1 => [(0, L_O x0), (3, .sl 0 0 s1.2.length), (4, .j s1.1)]) (fun s1 => [some ⟨fl (encO true) s1.2, 1⟩]) (Gh.ren0 [0] (.same rfl (ekO.fref _ _) .nil) rfl (.cons rfl (.dat (ekO.rlst)) (.cons rfl (.slq rfl rfl) (.cons rfl (.dat .int) .nil)))) (fun s1 B o hS1 hB1 hE1 => ?_)
  unfold S_laws_flip_1 at hS1
  refine RW.seq (RW.sreg (rl.run 3 rfl ?_))
  refine rl.gen rfl rfl fun b hb => ?_
  cases b
  ·have h3 := iteBF hS1 hb
   refine rl.done (RW.cond_f rfl (RW.exit (blkA_eq ?_)))
   cases h3
   exact ⟨_, (hE1 _ rfl).symm, (Gh.ren0 [0] (.same rfl (ekO.fref _ _) .nil) rfl (.cons rfl (.slq rfl rfl) .nil))⟩
  ·have h4 := iteBT hS1 hb
   refine rl.done (RW.cond_t rfl (RW.skip (RW.seq (RW.blk (RW.reg (rl.run 3 rfl ?_))))))
   obtain ⟨v3, e3, h5⟩ := bindS h4
   refine rl.op (x_ia_lst (enc := encO) (o := false) rfl rfl rfl e3) ?_
   refine rl.op (x_ld_el (off' := 0) ekO rfl e3 rfl rfl rfl) ?_
   refine rl.run 2 rfl ?_
   obtain ⟨v4, e4, h6⟩ := bindS h5
   refine rl.op (x_app rfl rfl (rapp_sl (l := s1.2) (m := [!v3]) (o := true) ekO rfl rfl (acont_slq (m := [!v3]) (o := true) fkO rfl rfl) rfl (fkO.fst _ _) e4)) ?_
   refine rl.run 1 rfl (rl.done (RW.reg (rl.run 3 rfl (rl.done ?_))))
   cases h6
   exact hB1 _ rfl _ _ (Gh.ren0 [2] (.same rfl (ekO.fref _ _) .nil) rfl (.cons rfl (.dat (ekO.rlst)) (.cons rfl (.slq rfl rfl) (.cons rfl (.dat .int) .nil))))
 ·intro y2 hC
  subst hC
  refine RW.sreg (rl.run 2 rfl (rl.done (RW.ret ?_)))
  cases h2
  exact RRet.mk rfl (OutR.ownq ekO rfl rfl) (by first | decide | simp)
theorem law_laws_big {x0 : List Int} {r : Bool} (hF : F_laws_big x0 = some r) : PCalls Try.prog 8 [L_B x0] (.bool r) := by
 refine PCalls.of_r k_laws_big rfl ?_
 unfold F_laws_big at hF
 refine RW.sreg (rl.run 1 rfl (rl.done (RW.sreg (rl.run 4 rfl (rl.done (RW.ret ?_))))))
 cases hF
 exact RRet.mk rfl .bool (by first | decide | simp)
set_option maxHeartbeats 2000000 in
theorem law_laws_FnShrinksTwice {x0 : List Int} {r : Bool} (hF : F_laws_FnShrinksTwice x0 = some r) : PCalls Try.prog 5 [L_B x0] (.bool r) := by
 refine PCalls.of_r k_laws_FnShrinksTwice rfl ?_
 unfold F_laws_FnShrinksTwice at hF
 refine RW.sreg (rl.run 1 rfl (rl.done (RW.seq (RW.sreg (rl.run 1 rfl ?_)))))
 obtain ⟨v1, e1, h1⟩ := bindS hF
 refine rl.call rfl rfl rfl (CallW.val (r' := .bool v1) ok_laws_big (law_laws_big e1) (.cons (.lst ekB) .nil) .refl ?_)
 cases hb : v1
 ·have h2 := iteBF h1 hb
  refine rl.done (RW.cond_f rfl (RW.skip (RW.sreg (rl.run 1 rfl ?_))))
  obtain ⟨v2, e2, h3⟩ := bindS h2
  refine rl.call rfl rfl rfl (CallW.val (r' := L_TItem v2) ok_spec_DrawItems (law_spec_DrawItems e2) (.cons (.lst ekB) .nil) (ek_TItem.fflag _).lst ?_)
  refine rl.run 1 rfl (rl.done (RW.sreg (rl.run 1 rfl ?_)))
  obtain ⟨v3, e3, h4⟩ := bindS h3
  refine rl.call rfl rfl rfl (CallW.val (r' := L_I v3) ok_spec_DrawPlaces (law_spec_DrawPlaces e3) (.cons (.lst ekB) .nil) (ekI.fflag _).lst ?_)
  refine rl.run 1 rfl (rl.done (RW.sreg (rl.run 4 rfl ?_)))
  obtain ⟨v4, e4, h5⟩ := bindS h4
  refine rl.call rfl rfl rfl (CallW.val (r' := L_O v4) ok_laws_chosen (law_laws_chosen e4) (.cons .int (.cons (.lst ekI) .nil)) (ekO.fflag _).lst ?_)
  obtain ⟨v5, e5, h6⟩ := bindS h5
  refine rl.call rfl rfl rfl (CallW.val (r' := L_TItem v5) ok_impl_Shrunk (law_impl_Shrunk e5) (.cons (.lst ek_TItem) (.cons (.lst ekO) (.cons .int .nil))) (ek_TItem.fflag _).lst ?_)
  refine rl.run 1 rfl (rl.done ?_)
  refine RW.kp [3, 4, 5] [(3, L_TItem v2), (4, L_I v3), (5, L_TItem v5)] [] rfl rfl ?_
  refine RW.sreg (rl.run 4 rfl ?_)
  obtain ⟨v6, e6, h7⟩ := bindS h6
  refine rl.op (x_sle ekI rfl rfl rfl abnd_lo e6) ?_
  obtain ⟨v7, e7, h8⟩ := bindS h7
  refine rl.call rfl rfl rfl (CallW.val (r' := L_O v7) ok_laws_chosen (law_laws_chosen e7) (.cons .int (.cons (.lst ekI) .nil)) (ekO.fflag _).lst ?_)
  obtain ⟨v8, e8, h9⟩ := bindS h8
  refine rl.call rfl rfl rfl (CallW.val (r' := L_TItem v8) ok_impl_Shrunk (law_impl_Shrunk e8) (.cons (.lst ek_TItem) (.cons (.lst ekO) (.cons .int .nil))) (ek_TItem.fflag _).lst ?_)
  refine rl.run 1 rfl (rl.done (RW.sreg (rl.run 4 rfl ?_)))
  obtain ⟨v9, e9, h10⟩ := bindS h9
  refine rl.op (x_sle ekI rfl rfl rfl abnd_lo e9) ?_
  obtain ⟨v10, e10, h11⟩ := bindS h10
  refine rl.call rfl rfl rfl (CallW.val (r' := L_O v10) ok_laws_chosen (law_laws_chosen e10) (.cons .int (.cons (.lst ekI) .nil)) (ekO.fflag _).lst ?_)
  obtain ⟨v11, e11, h12⟩ := bindS h11
  refine rl.call rfl rfl rfl (CallW.val (r' := L_TItem v11) ok_impl_Shrunk (law_impl_Shrunk e11) (.cons (.lst ek_TItem) (.cons (.lst ekO) (.cons .int .nil))) (ek_TItem.fflag _).lst ?_)
  refine rl.run 1 rfl (rl.done ?_)
  refine RW.kp [3, 6, 7] [(3, L_TItem v2), (6, L_TItem v8), (7, L_TItem v11)] [] rfl rfl ?_
  refine RW.sreg (rl.run 1 rfl ?_)
  obtain ⟨v12, e12, h13⟩ := bindS h12
  refine rl.call rfl rfl rfl (CallW.val (r' := .agg (enc_TState false v12)) ok_spec_StateOf (law_spec_StateOf e12) (.cons (.lst ek_TItem) .nil) (ek_TState.flag _).agg ?_)
  refine rl.run 2 rfl (rl.done (RW.sreg (rl.run 1 rfl ?_)))
  obtain ⟨v13, e13, h14⟩ := bindS h13
  refine rl.call rfl rfl rfl (CallW.val (r' := L_O v13) ok_impl_NeededAll (law_impl_NeededAll e13) (.cons (.lst ek_TItem) .nil) (ekO.fflag _).lst ?_)
  refine rl.run 1 rfl (rl.done (RW.seq (RW.sreg (rl.run 1 rfl (rl.done ?_)))))
  obtain ⟨y18, ey18, h16⟩ := bindS h14
  refine RW.cutq (σ := Unit) (fun y15 => [(3, L_TItem v2), (6, L_TItem v8), (7, L_TItem v11), (8, .ptr 0 0), (9, L_O v13)]) (fun y15 => [some ⟨[L_TBox v12.Boxes], 0⟩]) (fun y => y18 = .inr y) (fun _ _ _ _ g h => RW.gh g h) ?_ ?_
  ·refine RW.blk ?_
   refine RW.iter (σ := Int) ey18 (fun s14 => [(3, L_TItem v2), (6, L_TItem v8), (7, L_TItem v11), (8, .ptr 0 0), (9, L_O v13), (10, .j s14)]) (fun s14 => [some ⟨[L_TBox v12.Boxes], 0⟩]) (Gh.ren0 [0] (.cells rfl rfl (.keep (ek_TBox.rlst) .nil) .nil) rfl (.cons rfl (.dat (ek_TItem.rlst)) (.cons rfl (.dat (ek_TItem.rlst)) (.cons rfl (.dat (ek_TItem.rlst)) (.cons rfl (.ptr rfl) (.cons rfl (.dat (ekO.rlst)) (.cons rfl (.dat .int) .nil))))))) (fun s14 B o hS15 hB15 hE15 => ?_)
   unfold S_laws_FnShrinksTwice_1 at hS15
   refine RW.seq (RW.sreg (rl.run 3 rfl ?_))
   refine rl.gen rfl rfl fun b hb => ?_
   cases b
   ·have h17 := iteBF hS15 hb
    refine rl.done (RW.cond_f rfl (RW.exit (blkA_eq ?_)))
    cases h17
    exact ⟨_, (hE15 _ rfl).symm, (Gh.ren0 [0] (.cells rfl rfl (.keep (ek_TBox.rlst) .nil) .nil) rfl (.cons rfl (.dat (ek_TItem.rlst)) (.cons rfl (.dat (ek_TItem.rlst)) (.cons rfl (.dat (ek_TItem.rlst)) (.cons rfl (.ptr rfl) (.cons rfl (.dat (ekO.rlst)) .nil))))))⟩
   ·have h18 := iteBT hS15 hb
    refine rl.done (RW.cond_t rfl (RW.skip (RW.seq (RW.blk (RW.sdrw (rdraw.op rfl rfl (rdraw.op rfl rfl ?_)))))))
    obtain ⟨v16, e16, h19⟩ := bindS h18
    refine rdraw.op rfl (x_ia_lst (enc := encO) (o := false) rfl rfl rfl e16) ?_
    refine rdraw.op rfl (x_ld_el (off' := 0) ekO rfl e16 rfl rfl rfl) ?_
    refine rdraw.op rfl rfl (rdraw.op rfl rfl ?_)
    obtain ⟨v17, e17, h20⟩ := bindS h19
    refine rdraw.call rfl rfl rfl (CallW.val (r' := .bool v17) ok_impl_Needed (law_impl_Needed e17) (.cons (.lst ek_TItem) (.cons .int .nil)) .refl ⟨rfl, ?_⟩)
    refine rdraw.gen rfl rfl fun b hb => ?_
    cases b
    ·have h21 := iteBF h20 hb
     refine rdraw.done ?_
     refine RW.kp [3, 6, 7, 8, 9, 10, 54] [(3, L_TItem v2), (6, L_TItem v8), (7, L_TItem v11), (8, .ptr 0 0), (9, L_O v13), (10, .j s14), (54, .bool false)] [some ⟨[L_TBox v12.Boxes], 0⟩] rfl rfl ?_
     refine RW.cond_f rfl (RW.skip (RW.reg (rl.run 3 rfl (rl.done ?_))))
     cases h21
     exact hB15 _ rfl _ _ (Gh.ren0 [0] (.cells rfl rfl (.keep (ek_TBox.rlst) .nil) .nil) rfl (.cons rfl (.dat (ek_TItem.rlst)) (.cons rfl (.dat (ek_TItem.rlst)) (.cons rfl (.dat (ek_TItem.rlst)) (.cons rfl (.ptr rfl) (.cons rfl (.dat (ekO.rlst)) (.cons rfl (.dat .int) .nil)))))))
    ·have h22 := iteBT h20 hb
     refine rdraw.done ?_
     refine RW.kp [3, 6, 7, 8, 9, 10, 54] [(3, L_TItem v2), (6, L_TItem v8), (7, L_TItem v11), (8, .ptr 0 0), (9, L_O v13), (10, .j s14), (54, .bool true)] [some ⟨[L_TBox v12.Boxes], 0⟩] rfl rfl ?_
     refine RW.cond_t rfl (RW.sreg (rl.run 1 rfl (rl.done (RW.ret ?_))))
     cases h22
     have h23 := elimL h16 (hE15 _ rfl)
     cases h23
     exact RRet.mk rfl .bool (by first | decide | simp)
  ·intro y15 hC
   have h16 := elimR h16 hC
   refine RW.seq ?_
   obtain ⟨y19, ey19, h24⟩ := bindS h16
   refine RW.cutq (σ := Bool) (fun y19 => [(2, .bool y19)]) (fun y19 => []) (fun y => y19 = y) (fun _ _ _ _ g h => RW.gh g h) ?_ ?_
   ·refine RW.drw ?_
    refine rdraw.op rfl rfl ?_
    obtain ⟨v20, e20, h25⟩ := bindS ey19
    refine rdraw.call rfl rfl rfl (CallW.val (r' := .agg (enc_TState false v20)) ok_spec_StateOf (law_spec_StateOf e20) (.cons (.lst ek_TItem) .nil) (ek_TState.flag _).agg ⟨rfl, ?_⟩)
    refine rdraw.op rfl rfl ?_
    obtain ⟨v21, e21, h26⟩ := bindS h25
    refine rdraw.call rfl rfl rfl (CallW.val (r' := .bool v21) ok_spec_SameState (law_spec_SameState e21) (.cons (.dat (.agg (ek_TState.dat false _))) (.cons (DFL.agg (.cons (.lst ek_TBox) .nil)) .nil)) .refl ⟨rfl, ?_⟩)
    cases hb : v21
    ·have h27 := iteBF h26 hb
     refine rdraw.op rfl rfl (rdraw.off rfl (rdraw.off rfl (rdraw.off rfl (rdraw.off rfl (rdraw.op rfl rfl (rdraw.op rfl rfl (rdraw.off rfl (rdraw.off rfl (rdraw.off rfl (rdraw.off rfl (rdraw.off rfl ?_)))))))))))
     refine rdraw.op rfl rfl (rdraw.op rfl rfl (rdraw.off rfl (rdraw.off rfl (rdraw.off rfl (rdraw.off rfl (rdraw.off rfl (rdraw.off rfl (rdraw.off rfl (rdraw.off rfl (rdraw.off rfl (rdraw.off rfl ?_)))))))))))
     refine rdraw.off rfl (rdraw.off rfl (rdraw.off rfl (rdraw.op rfl rfl (rdraw.op rfl rfl (rdraw.done ?_)))))
     cases h27
     exact ⟨_, rfl, (Gh.ren0 [] .nil rfl (.cons rfl (.dat .bool) .nil))⟩
    ·have h28 := iteBT h26 hb
     refine rdraw.op rfl rfl (rdraw.op rfl rfl ?_)
     obtain ⟨v22, e22, h29⟩ := bindS h28
     refine rdraw.call rfl rfl rfl (CallW.val (r' := .agg (enc_TState false v22)) ok_spec_StateOf (law_spec_StateOf e22) (.cons (.lst ek_TItem) .nil) (ek_TState.flag _).agg ⟨rfl, ?_⟩)
     refine rdraw.op rfl rfl ?_
     obtain ⟨v23, e23, h30⟩ := bindS h29
     refine rdraw.call rfl rfl rfl (CallW.val (r' := .bool v23) ok_spec_SameState (law_spec_SameState e23) (.cons (.dat (.agg (ek_TState.dat false _))) (.cons (DFL.agg (.cons (.lst ek_TBox) .nil)) .nil)) .refl ⟨rfl, ?_⟩)
     cases hb : v23
     ·have h31 := iteBF h30 hb
      refine rdraw.op rfl rfl (rdraw.op rfl rfl (rdraw.off rfl (rdraw.off rfl (rdraw.off rfl (rdraw.off rfl (rdraw.off rfl (rdraw.op rfl rfl (rdraw.op rfl rfl (rdraw.off rfl (rdraw.off rfl (rdraw.off rfl ?_)))))))))))
      refine rdraw.off rfl (rdraw.off rfl (rdraw.off rfl (rdraw.off rfl (rdraw.off rfl (rdraw.off rfl (rdraw.off rfl (rdraw.off rfl (rdraw.off rfl (rdraw.off rfl (rdraw.op rfl rfl (rdraw.op rfl rfl ?_)))))))))))
      refine rdraw.done ?_
      cases h31
      exact ⟨_, rfl, (Gh.ren0 [] .nil rfl (.cons rfl (.dat .bool) .nil))⟩
     ·have h32 := iteBT h30 hb
      refine rdraw.op rfl rfl (rdraw.op rfl rfl (rdraw.op rfl rfl (rdraw.op rfl rfl (rdraw.op rfl rfl (rdraw.op rfl rfl ?_)))))
      refine rdraw.gen rfl rfl fun b hb => ?_
      cases b
      ·have h33 := iteBF h32 hb
       refine rdraw.op rfl rfl (rdraw.op rfl rfl (rdraw.off rfl (rdraw.off rfl (rdraw.off rfl (rdraw.off rfl (rdraw.off rfl (rdraw.off rfl (rdraw.off rfl (rdraw.off rfl (rdraw.off rfl (rdraw.off rfl ?_)))))))))))
       refine rdraw.off rfl (rdraw.off rfl (rdraw.off rfl (rdraw.op rfl rfl (rdraw.op rfl rfl (rdraw.done ?_)))))
       cases h33
       exact ⟨_, rfl, (Gh.ren0 [] .nil rfl (.cons rfl (.dat .bool) .nil))⟩
      ·have h34 := iteBT h32 hb
       refine rdraw.op rfl rfl (rdraw.op rfl rfl (rdraw.op rfl rfl (rdraw.op rfl rfl ?_)))
       obtain ⟨v24, e24, h35⟩ := bindS h34
       refine rdraw.call rfl rfl rfl (CallW.val (r' := L_TItem v24) ok_impl_Without (law_impl_Without e24) (.cons (.lst ek_TItem) (.cons (.lst ekO) .nil)) (ek_TItem.fflag _).lst ⟨rfl, ?_⟩)
       refine rdraw.op rfl rfl (rdraw.op rfl rfl (rdraw.op rfl rfl ?_))
       obtain ⟨v25, e25, h36⟩ := bindS h35
       refine rdraw.call rfl rfl rfl (CallW.val (r' := L_O v25) ok_laws_flip (law_laws_flip e25) (.cons (.lst ekO) .nil) (ekO.fflag _).lst ⟨rfl, ?_⟩)
       obtain ⟨v26, e26, h37⟩ := bindS h36
       refine rdraw.call rfl rfl rfl (CallW.val (r' := L_TItem v26) ok_impl_Without (law_impl_Without e26) (.cons (.lst ek_TItem) (.cons (.lst ekO) .nil)) (ek_TItem.fflag _).lst ⟨rfl, ?_⟩)
       refine rdraw.op rfl rfl (rdraw.op rfl rfl (rdraw.op rfl rfl (rdraw.op rfl rfl (rdraw.op rfl rfl (rdraw.op rfl rfl (rdraw.op rfl rfl (rdraw.done ?_)))))))
       cases h37
       exact ⟨_, rfl, (Gh.ren0 [] .nil rfl (.cons rfl (.dat .bool) .nil))⟩
   ·intro y hC
    subst hC
    refine RW.ret ?_
    cases h24
    exact RRet.mk rfl .bool (by first | decide | simp)
 ·have h38 := iteBT h1 hb
  refine rl.done (RW.cond_t rfl (RW.sreg (rl.run 1 rfl (rl.done (RW.ret ?_)))))
  cases h38
  exact RRet.mk rfl .bool (by first | decide | simp)
end Go.Proofs.Ytldndhdohlfpgaa.V
