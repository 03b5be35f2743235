/- What a call comes to. -/
import Derived.Test.YtgdcbjoaoagbpaaXT
import Derived.Test.YtgdcbjoaoagbpaaXU
namespace Go.Proofs.Ytgdcbjoaoagbpaa.V
open Go Go.Proofs Go.RowKit
set_option maxRecDepth 100000
theorem law_laws_szStringS {x0 : List (List UInt8)} {x1 : Int} {r : Int} (hF : F_laws_szStringS x0 x1 = some r) : PCalls Try.prog 81 [.lst false 1 (fl (encS false) x0) x0.length, .int .i64 x1] (.int .i64 r) := by
 refine PCalls.of_r k_laws_szStringS rfl ?_
 unfold F_laws_szStringS at hF
 refine RW.sreg (rl.run 1 rfl (rl.done (RW.sreg (rl.run 5 rfl (rl.done (RW.seq (RW.sreg (rl.run 1 rfl ?_))))))))
 refine rl.gen rfl rfl fun b hb => ?_
 cases b
 ·have h1 := iteBF hF hb
  refine rl.done (RW.cond_f rfl (RW.skip (RW.seq (RW.sreg (rl.run 1 rfl (rl.done ?_))))))
  obtain ⟨y4, ey4, h3⟩ := bindS h1
  refine RW.cutq (σ := Int) (fun y2 => [(1, .int .i64 y2)]) (fun y2 => []) (fun y => y4 = .inr y) (fun _ _ _ _ g h => RW.gh g h) ?_ ?_
  ·refine RW.blk ?_
   refine RW.iter (σ := Int × Int) ey4 (fun s1 => [(0, .lst false 1 (fl (encS false) x0) x0.length), (1, .int .i64 s1.1), (5, .int .i64 s1.2)]) (fun s1 => []) (Gh.ren0 [] .nil rfl (.cons rfl (.dat (ekS.rlst)) (.cons rfl (.dat .int) (.cons rfl (.dat .int) .nil)))) (fun s1 B o hS2 hB2 hE2 => ?_)
   unfold S_laws_szStringS_1 at hS2
   refine RW.seq (RW.sreg (rl.run 3 rfl ?_))
   refine rl.gen rfl rfl fun b hb => ?_
   cases b
   ·have h4 := iteBF hS2 hb
    refine rl.done (RW.cond_f rfl (RW.exit (blkA_eq ?_)))
    cases h4
    exact ⟨_, (hE2 _ rfl).symm, (Gh.ren0 [] .nil rfl (.cons rfl (.dat .int) .nil))⟩
   ·have h5 := iteBT hS2 hb
    refine rl.done (RW.cond_t rfl (RW.skip (RW.seq (RW.blk (RW.sreg (rl.run 3 rfl ?_))))))
    obtain ⟨v3, e3, h6⟩ := bindS h5
    refine rl.op (x_ia_lst (enc := encS) (o := false) rfl rfl rfl e3) ?_
    refine rl.op (x_ld_el (off' := 0) ekS rfl e3 rfl rfl rfl) ?_
    refine rl.run 3 rfl (rl.done ?_)
    refine RW.keep [0, 1, 5] (a' := [(0, .lst false 1 (fl (encS false) x0) x0.length), (1, .int .i64 (w64 (s1.1 - (v3.length : Int)))), (5, .int .i64 s1.2)]) (H' := []) rfl rfl ?_
    refine RW.sreg (rl.run 1 rfl ?_)
    refine rl.gen rfl rfl fun b hb => ?_
    cases b
    ·have h7 := iteBF h6 hb
     refine rl.done (RW.cond_f rfl (RW.skip (RW.reg (rl.run 3 rfl (rl.done ?_)))))
     cases h7
     exact hB2 _ rfl _ _ (Gh.ren0 [] .nil rfl (.cons rfl (.dat (ekS.rlst)) (.cons rfl (.dat .int) (.cons rfl (.dat .int) .nil))))
    ·have h8 := iteBT h6 hb
     refine rl.done (RW.cond_t rfl (RW.sreg (rl.run 1 rfl (rl.done (RW.ret ?_)))))
     cases h8
     have h9 := elimL h3 (hE2 _ rfl)
     cases h9
     exact RRet.mk rfl .int (by first | decide | simp)
  ·intro y2 hC
   have h3 := elimR h3 hC
   refine RW.sreg (rl.run 2 rfl (rl.done (RW.ret ?_)))
   cases h3
   exact RRet.mk rfl .int (by first | decide | simp)
 ·have h10 := iteBT hF hb
  refine rl.done (RW.cond_t rfl (RW.sreg (rl.run 1 rfl (rl.done (RW.ret ?_)))))
  cases h10
  exact RRet.mk rfl .int (by first | decide | simp)
theorem law_laws_szWrite {x0 : TWrite} {x1 : Int} {r : Int} (hF : F_laws_szWrite x0 x1 = some r) : PCalls Try.prog 146 [.agg (enc_TWrite false x0), .int .i64 x1] (.int .i64 r) := by
 refine PCalls.of_r k_laws_szWrite rfl ?_
 unfold F_laws_szWrite at hF
 refine RW.sreg (rl.run 2 rfl (rl.done (RW.sreg (rl.run 6 rfl (rl.done (RW.seq (RW.sreg (rl.run 1 rfl ?_))))))))
 refine rl.gen rfl rfl fun b hb => ?_
 cases b
 ·have h1 := iteBF hF hb
  refine rl.done (RW.cond_f rfl (RW.skip (RW.sreg (rl.run 2 rfl (rl.done ?_)))))
  refine RW.keep [4] (a' := [(4, .int .i64 (w64 (x1 - (x0.Text.length : Int))))]) (H' := [some ⟨[.int .i64 x0.At, .str x0.Text], 0⟩]) rfl rfl ?_
  refine RW.ret ?_
  cases h1
  exact RRet.mk rfl .int (by first | decide | simp)
 ·have h2 := iteBT hF hb
  refine rl.done (RW.cond_t rfl (RW.sreg (rl.run 1 rfl (rl.done (RW.ret ?_)))))
  cases h2
  exact RRet.mk rfl .int (by first | decide | simp)
theorem law_laws_szWriteS {x0 : List TWrite} {x1 : Int} {r : Int} (hF : F_laws_szWriteS x0 x1 = some r) : PCalls Try.prog 82 [.lst false 2 (fl (enc_TWrite false) x0) x0.length, .int .i64 x1] (.int .i64 r) := by
 refine PCalls.of_r k_laws_szWriteS rfl ?_
 unfold F_laws_szWriteS at hF
 refine RW.sreg (rl.run 1 rfl (rl.done (RW.sreg (rl.run 5 rfl (rl.done (RW.seq (RW.sreg (rl.run 1 rfl ?_))))))))
 refine rl.gen rfl rfl fun b hb => ?_
 cases b
 ·have h1 := iteBF hF hb
  refine rl.done (RW.cond_f rfl (RW.skip (RW.seq (RW.sreg (rl.run 1 rfl (rl.done ?_))))))
  obtain ⟨y5, ey5, h3⟩ := bindS h1
  refine RW.cutq (σ := Int) (fun y2 => [(1, .int .i64 y2)]) (fun y2 => []) (fun y => y5 = .inr y) (fun _ _ _ _ g h => RW.gh g h) ?_ ?_
  ·refine RW.blk ?_
   refine RW.iter (σ := Int × Int) ey5 (fun s1 => [(0, .lst false 2 (fl (enc_TWrite false) x0) x0.length), (1, .int .i64 s1.1), (5, .int .i64 s1.2)]) (fun s1 => []) (Gh.ren0 [] .nil rfl (.cons rfl (.dat (ek_TWrite.rlst)) (.cons rfl (.dat .int) (.cons rfl (.dat .int) .nil)))) (fun s1 B o hS2 hB2 hE2 => ?_)
   unfold S_laws_szWriteS_1 at hS2
   refine RW.seq (RW.sreg (rl.run 3 rfl ?_))
   refine rl.gen rfl rfl fun b hb => ?_
   cases b
   ·have h4 := iteBF hS2 hb
    refine rl.done (RW.cond_f rfl (RW.exit (blkA_eq ?_)))
    cases h4
    exact ⟨_, (hE2 _ rfl).symm, (Gh.ren0 [] .nil rfl (.cons rfl (.dat .int) .nil))⟩
   ·have h5 := iteBT hS2 hb
    refine rl.done (RW.cond_t rfl (RW.skip (RW.seq (RW.blk (RW.sreg (rl.run 2 rfl ?_))))))
    obtain ⟨v3, e3, h6⟩ := bindS h5
    refine rl.op (x_ia_lst (enc := enc_TWrite) (o := false) rfl rfl rfl e3) ?_
    refine rl.op (x_ld_ela (off' := 0) (vs := (enc_TWrite false v3)) ek_TWrite rfl e3 rfl rfl rfl) ?_
    refine rl.run 1 rfl ?_
    obtain ⟨v4, e4, h7⟩ := bindS h6
    refine rl.call rfl rfl rfl (CallW.val (r' := .int .i64 v4) ok_laws_szWrite (law_laws_szWrite e4) (.cons (.dat (.agg (ek_TWrite.dat false _))) (.cons .int .nil)) .refl ?_)
    refine rl.run 1 rfl (rl.done (RW.sreg (rl.run 1 rfl ?_)))
    refine rl.gen rfl rfl fun b hb => ?_
    cases b
    ·have h8 := iteBF h7 hb
     refine rl.done ?_
     refine RW.keep [0, 1, 5, 25] (a' := [(0, .lst false 2 (fl (enc_TWrite false) x0) x0.length), (1, .int .i64 v4), (5, .int .i64 s1.2), (25, .bool false)]) (H' := []) rfl rfl ?_
     refine RW.cond_f rfl (RW.skip (RW.reg (rl.run 3 rfl (rl.done ?_))))
     cases h8
     exact hB2 _ rfl _ _ (Gh.ren0 [] .nil rfl (.cons rfl (.dat (ek_TWrite.rlst)) (.cons rfl (.dat .int) (.cons rfl (.dat .int) .nil))))
    ·have h9 := iteBT h7 hb
     refine rl.done ?_
     refine RW.keep [0, 1, 5, 25] (a' := [(0, .lst false 2 (fl (enc_TWrite false) x0) x0.length), (1, .int .i64 v4), (5, .int .i64 s1.2), (25, .bool true)]) (H' := []) rfl rfl ?_
     refine RW.cond_t rfl (RW.sreg (rl.run 1 rfl (rl.done (RW.ret ?_))))
     cases h9
     have h10 := elimL h3 (hE2 _ rfl)
     cases h10
     exact RRet.mk rfl .int (by first | decide | simp)
  ·intro y2 hC
   have h3 := elimR h3 hC
   refine RW.sreg (rl.run 2 rfl (rl.done (RW.ret ?_)))
   cases h3
   exact RRet.mk rfl .int (by first | decide | simp)
 ·have h11 := iteBT hF hb
  refine rl.done (RW.cond_t rfl (RW.sreg (rl.run 1 rfl (rl.done (RW.ret ?_)))))
  cases h11
  exact RRet.mk rfl .int (by first | decide | simp)
theorem law_laws_szDisk {x0 : TDisk} {x1 : Int} {r : Int} (hF : F_laws_szDisk x0 x1 = some r) : PCalls Try.prog 40 [.agg (enc_TDisk false x0), .int .i64 x1] (.int .i64 r) := by
 refine PCalls.of_r k_laws_szDisk rfl ?_
 unfold F_laws_szDisk at hF
 refine RW.sreg (rl.run 2 rfl (rl.done (RW.sreg (rl.run 3 rfl ?_))))
 obtain ⟨v1, e1, h1⟩ := bindS hF
 refine rl.call rfl rfl rfl (CallW.val (r' := .int .i64 v1) ok_laws_szStringS (law_laws_szStringS e1) (.cons (.lst ekS) (.cons .int .nil)) .refl ?_)
 refine rl.run 1 rfl (rl.done (RW.seq (RW.sreg (rl.run 1 rfl ?_))))
 refine rl.gen rfl rfl fun b hb => ?_
 cases b
 ·have h2 := iteBF h1 hb
  refine rl.done (RW.cond_f rfl (RW.skip (RW.sreg (rl.run 3 rfl ?_))))
  obtain ⟨v2, e2, h3⟩ := bindS h2
  refine rl.call rfl rfl rfl (CallW.val (r' := .int .i64 v2) ok_laws_szWriteS (law_laws_szWriteS e2) (.cons (.lst ek_TWrite) (.cons .int .nil)) .refl ?_)
  refine rl.run 1 rfl (rl.done ?_)
  refine RW.keep [1] (a' := [(1, .int .i64 v2)]) (H' := [some ⟨[.lst false 1 (fl (encS false) x0.Sectors) x0.Sectors.length, .lst false 2 (fl (enc_TWrite false) x0.Cache) x0.Cache.length], 0⟩]) rfl rfl ?_
  refine RW.seq (RW.sreg (rl.run 1 rfl ?_))
  refine rl.gen rfl rfl fun b hb => ?_
  cases b
  ·have h4 := iteBF h3 hb
   refine rl.done (RW.cond_f rfl (RW.skip (RW.sreg (rl.run 2 rfl (rl.done (RW.ret ?_))))))
   cases h4
   exact RRet.mk rfl .int (by first | decide | simp)
  ·have h5 := iteBT h3 hb
   refine rl.done (RW.cond_t rfl (RW.sreg (rl.run 1 rfl (rl.done (RW.ret ?_)))))
   cases h5
   exact RRet.mk rfl .int (by first | decide | simp)
 ·have h6 := iteBT h1 hb
  refine rl.done (RW.cond_t rfl (RW.sreg (rl.run 1 rfl (rl.done (RW.ret ?_)))))
  cases h6
  exact RRet.mk rfl .int (by first | decide | simp)
theorem law_laws_toStringS {x0 : List (List UInt8)} {r : List (List UInt8)} (hF : F_laws_toStringS x0 = some r) : PCalls Try.prog 85 [.lst false 1 (fl (encS false) x0) x0.length] (.lst true 1 (fl (encS true) r) r.length) := by
 refine PCalls.of_r k_laws_toStringS rfl ?_
 unfold F_laws_toStringS at hF
 refine RW.sreg (rl.run 1 rfl (rl.done (RW.sreg (rl.run 2 rfl ?_))))
 obtain ⟨v1, e1, h1⟩ := bindS hF
 refine rl.op (x_ms ekS rfl rfl e1 rfl) ?_
 refine rl.run 1 rfl (rl.done (RW.seq (RW.sreg (rl.run 1 rfl (rl.done ?_)))))
 obtain ⟨y7, ey7, h3⟩ := bindS h1
 refine RW.cutq (σ := (List (List UInt8))) (fun y3 => [(3, .sl 0 0 y3.length)]) (fun y3 => [some ⟨fl (encS true) y3, 1⟩]) (fun y => y7 = y) (fun _ _ _ _ g h => RW.gh g h) ?_ ?_
 ·refine RW.blk ?_
  refine RW.iter (σ := Int × (List (List UInt8))) ey7 (fun s2 => [(0, .lst false 1 (fl (encS false) x0) x0.length), (3, .sl 0 0 s2.2.length), (4, .int .i64 s2.1)]) (fun s2 => [some ⟨fl (encS true) s2.2, 1⟩]) (Gh.ren0 [0] (.same rfl (ekS.fref _ _) .nil) rfl (.cons rfl (.dat (ekS.rlst)) (.cons rfl (.slq rfl rfl) (.cons rfl (.dat .int) .nil)))) (fun s2 B o hS2 hB2 hE2 => ?_)
  unfold S_laws_toStringS_1 at hS2
  refine RW.seq (RW.sreg (rl.run 3 rfl ?_))
  refine rl.gen rfl rfl fun b hb => ?_
  cases b
  ·have h4 := iteBF hS2 hb
   refine rl.done (RW.cond_f rfl (RW.exit (blkA_eq ?_)))
   cases h4
   exact ⟨_, (hE2 _ rfl).symm, (Gh.ren0 [0] (.same rfl (ekS.fref _ _) .nil) rfl (.cons rfl (.slq rfl rfl) .nil))⟩
  ·have h5 := iteBT hS2 hb
   refine rl.done (RW.cond_t rfl (RW.skip (RW.seq (RW.blk (RW.reg (rl.run 4 rfl ?_))))))
   obtain ⟨v4, e4, h6⟩ := bindS h5
   refine rl.op (x_ia_lst (enc := encS) (o := false) rfl rfl rfl e4) ?_
   refine rl.op (x_ld_el (off' := 0) ekS rfl e4 rfl rfl rfl) ?_
   obtain ⟨v5, e5, h7⟩ := bindS h6
   refine rl.op (x_ia_sl rfl rfl rfl rfl e5) ?_
   obtain ⟨v6, e6, h8⟩ := bindS h7
   refine rl.op0 (x_st_sl' (off' := 0) (o := true) (e' := v4) ekS e5 rfl rfl rfl rfl rfl rfl rfl rfl rfl e6) ?_
   refine rl.done (RW.reg (rl.run 3 rfl (rl.done ?_)))
   cases h8
   exact hB2 _ rfl _ _ (Gh.ren0 [0] (.same rfl (ekS.fref _ _) .nil) rfl (.cons rfl (.dat (ekS.rlst)) (.cons rfl (.slq rfl (set'_len e6)) (.cons rfl (.dat .int) .nil))))
 ·intro y3 hC
  subst hC
  refine RW.sreg (rl.run 2 rfl (rl.done (RW.ret ?_)))
  cases h3
  exact RRet.mk rfl (OutR.ownq ekS rfl rfl) (by first | decide | simp)
theorem law_laws_toWrite {x0 : TWrite} {r : TWrite} (hF : F_laws_toWrite x0 = some r) : PCalls Try.prog 151 [.agg (enc_TWrite false x0)] (.agg (enc_TWrite true r)) := by
 refine PCalls.of_r k_laws_toWrite rfl ?_
 unfold F_laws_toWrite at hF
 refine RW.sreg (rl.run 2 rfl (rl.done (RW.sreg (rl.run 1 rfl (rl.done (RW.sreg (rl.run 4 rfl (rl.done (RW.sreg (rl.run 4 rfl (rl.done ?_)))))))))))
 refine RW.sreg (rl.run 2 rfl (rl.done (RW.ret ?_)))
 cases hF
 exact RRet.mk rfl (OutL.agg (.cons .int rfl (.cons .str rfl .nil))) (by first | decide | simp)
theorem law_laws_toWriteS {x0 : List TWrite} {r : List TWrite} (hF : F_laws_toWriteS x0 = some r) : PCalls Try.prog 86 [.lst false 2 (fl (enc_TWrite false) x0) x0.length] (.lst true 2 (fl (enc_TWrite true) r) r.length) := by
 refine PCalls.of_r k_laws_toWriteS rfl ?_
 unfold F_laws_toWriteS at hF
 refine RW.sreg (rl.run 1 rfl (rl.done (RW.sreg (rl.run 2 rfl ?_))))
 obtain ⟨v1, e1, h1⟩ := bindS hF
 refine rl.op (x_ms ek_TWrite rfl rfl e1 rfl) ?_
 refine rl.run 1 rfl (rl.done (RW.seq (RW.sreg (rl.run 1 rfl (rl.done ?_)))))
 obtain ⟨y8, ey8, h3⟩ := bindS h1
 refine RW.cutq (σ := (List TWrite)) (fun y3 => [(3, .sl 0 0 y3.length)]) (fun y3 => [some ⟨fl (enc_TWrite true) y3, 2⟩]) (fun y => y8 = y) (fun _ _ _ _ g h => RW.gh g h) ?_ ?_
 ·refine RW.blk ?_
  refine RW.iter (σ := Int × (List TWrite)) ey8 (fun s2 => [(0, .lst false 2 (fl (enc_TWrite false) x0) x0.length), (3, .sl 0 0 s2.2.length), (4, .int .i64 s2.1)]) (fun s2 => [some ⟨fl (enc_TWrite true) s2.2, 2⟩]) (Gh.ren0 [0] (.same rfl (ek_TWrite.fref _ _) .nil) rfl (.cons rfl (.dat (ek_TWrite.rlst)) (.cons rfl (.slq rfl rfl) (.cons rfl (.dat .int) .nil)))) (fun s2 B o hS2 hB2 hE2 => ?_)
  unfold S_laws_toWriteS_1 at hS2
  refine RW.seq (RW.sreg (rl.run 3 rfl ?_))
  refine rl.gen rfl rfl fun b hb => ?_
  cases b
  ·have h4 := iteBF hS2 hb
   refine rl.done (RW.cond_f rfl (RW.exit (blkA_eq ?_)))
   cases h4
   exact ⟨_, (hE2 _ rfl).symm, (Gh.ren0 [0] (.same rfl (ek_TWrite.fref _ _) .nil) rfl (.cons rfl (.slq rfl rfl) .nil))⟩
  ·have h5 := iteBT hS2 hb
   refine rl.done (RW.cond_t rfl (RW.skip (RW.seq (RW.blk (RW.reg (rl.run 4 rfl ?_))))))
   obtain ⟨v4, e4, h6⟩ := bindS h5
   refine rl.op (x_ia_lst (enc := enc_TWrite) (o := false) rfl rfl rfl e4) ?_
   refine rl.op (x_ld_ela (off' := 0) (vs := (enc_TWrite false v4)) ek_TWrite rfl e4 rfl rfl rfl) ?_
   obtain ⟨v5, e5, h7⟩ := bindS h6
   refine rl.call rfl rfl rfl (CallW.val (r' := .agg (enc_TWrite false v5)) ok_laws_toWrite (law_laws_toWrite e5) (.cons (.dat (.agg (ek_TWrite.dat false _))) .nil) .refl ?_)
   obtain ⟨v6, e6, h8⟩ := bindS h7
   refine rl.op (x_ia_sl rfl rfl rfl rfl e6) ?_
   obtain ⟨v7, e7, h9⟩ := bindS h8
   refine rl.op0 (x_st_sl' (off' := 0) (o := true) (e' := v5) ek_TWrite e6 rfl rfl rfl rfl rfl rfl rfl rfl rfl e7) ?_
   refine rl.done (RW.reg (rl.run 3 rfl (rl.done ?_)))
   cases h9
   exact hB2 _ rfl _ _ (Gh.ren0 [0] (.same rfl (ek_TWrite.fref _ _) .nil) rfl (.cons rfl (.dat (ek_TWrite.rlst)) (.cons rfl (.slq rfl (set'_len e7)) (.cons rfl (.dat .int) .nil))))
 ·intro y3 hC
  subst hC
  refine RW.sreg (rl.run 2 rfl (rl.done (RW.ret ?_)))
  cases h3
  exact RRet.mk rfl (OutR.ownq ek_TWrite rfl rfl) (by first | decide | simp)
theorem law_laws_toDisk {x0 : TDisk} {r : TDisk} (hF : F_laws_toDisk x0 = some r) : PCalls Try.prog 42 [.agg (enc_TDisk false x0)] (.agg (enc_TDisk true r)) := by
 refine PCalls.of_r k_laws_toDisk rfl ?_
 unfold F_laws_toDisk at hF
 refine RW.sreg (rl.run 2 rfl (rl.done (RW.sreg (rl.run 1 rfl (rl.done (RW.sreg (rl.run 2 rfl ?_)))))))
 obtain ⟨v1, e1, h1⟩ := bindS hF
 refine rl.call rfl rfl rfl (CallW.own (r' := .sl 3 0 v1.length) (H' := [some ⟨[.lst false 1 (fl (encS false) x0.Sectors) x0.Sectors.length, .lst false 2 (fl (enc_TWrite false) x0.Cache) x0.Cache.length], 0⟩, some ⟨[.nils, .nils], 0⟩, some ⟨[.nils, .nils], 0⟩, some ⟨fl (encS true) v1, 1⟩]) ok_laws_toStringS (law_laws_toStringS e1) (.cons (.lst ekS) .nil) (.lst (ekS.fown _)) rfl ?_)
 refine rl.run 2 rfl (rl.done (RW.sreg (rl.run 2 rfl ?_)))
 obtain ⟨v2, e2, h2⟩ := bindS h1
 refine rl.call rfl rfl rfl (CallW.own (r' := .sl 4 0 v2.length) (H' := [some ⟨[.lst false 1 (fl (encS false) x0.Sectors) x0.Sectors.length, .lst false 2 (fl (enc_TWrite false) x0.Cache) x0.Cache.length], 0⟩, some ⟨[.nils, .nils], 0⟩, some ⟨[.sl 3 0 v1.length, .nils], 0⟩, some ⟨fl (encS true) v1, 1⟩, some ⟨fl (enc_TWrite true) v2, 2⟩]) ok_laws_toWriteS (law_laws_toWriteS e2) (.cons (.lst ek_TWrite) .nil) (.lst (ek_TWrite.fown _)) rfl ?_)
 refine rl.run 2 rfl (rl.done (RW.sreg (rl.run 2 rfl (rl.done ?_))))
 refine RW.keep [2] (a' := [(2, .ptr 1 0)]) (H' := [some ⟨[.lst false 1 (fl (encS false) x0.Sectors) x0.Sectors.length, .lst false 2 (fl (enc_TWrite false) x0.Cache) x0.Cache.length], 0⟩, some ⟨[.sl 3 0 v1.length, .sl 4 0 v2.length], 0⟩, some ⟨[.sl 3 0 v1.length, .sl 4 0 v2.length], 0⟩, some ⟨fl (encS true) v1, 1⟩, some ⟨fl (enc_TWrite true) v2, 2⟩]) rfl rfl ?_
 refine RW.ret ?_
 cases h2
 exact RRet.mk rfl (OutL.agg (.cons (OutR.ownq ekS rfl rfl) rfl (.cons (OutR.ownq ek_TWrite rfl rfl) rfl .nil))) (by first | decide | simp)
theorem law_laws_eqStringS {x0 : List (List UInt8)} {x1 : List (List UInt8)} {r : Bool} (hF : F_laws_eqStringS x0 x1 = some r) : PCalls Try.prog 89 [.lst false 1 (fl (encS false) x0) x0.length, .lst false 1 (fl (encS false) x1) x1.length] (.bool r) := by
 refine PCalls.of_r k_laws_eqStringS rfl ?_
 unfold F_laws_eqStringS at hF
 refine RW.sreg (rl.run 1 rfl (rl.done (RW.seq (RW.sreg (rl.run 4 rfl ?_)))))
 refine rl.gen rfl rfl fun b hb => ?_
 cases b
 ·have h1 := iteBF hF hb
  refine rl.done (RW.cond_f rfl (RW.skip (RW.seq (RW.sreg (rl.run 1 rfl (rl.done ?_))))))
  obtain ⟨y5, ey5, h3⟩ := bindS h1
  refine RW.cutq (σ := Unit) (fun y2 => []) (fun y2 => []) (fun y => y5 = .inr y) (fun _ _ _ _ g h => RW.gh g h) ?_ ?_
  ·refine RW.blk ?_
   refine RW.iter (σ := Int) ey5 (fun s1 => [(0, .lst false 1 (fl (encS false) x0) x0.length), (1, .lst false 1 (fl (encS false) x1) x1.length), (5, .int .i64 s1)]) (fun s1 => []) (Gh.ren0 [] .nil rfl (.cons rfl (.dat (ekS.rlst)) (.cons rfl (.dat (ekS.rlst)) (.cons rfl (.dat .int) .nil)))) (fun s1 B o hS2 hB2 hE2 => ?_)
   unfold S_laws_eqStringS_1 at hS2
   refine RW.seq (RW.sreg (rl.run 3 rfl ?_))
   refine rl.gen rfl rfl fun b hb => ?_
   cases b
   ·have h4 := iteBF hS2 hb
    refine rl.done (RW.cond_f rfl (RW.exit (blkA_eq ?_)))
    cases h4
    exact ⟨_, (hE2 _ rfl).symm, (Gh.ren0 [] .nil rfl .nil)⟩
   ·have h5 := iteBT hS2 hb
    refine rl.done (RW.cond_t rfl (RW.skip (RW.seq (RW.blk (RW.sdrw (rdraw.op rfl rfl (rdraw.op rfl rfl ?_)))))))
    obtain ⟨v3, e3, h6⟩ := bindS h5
    refine rdraw.op rfl (x_ia_lst (enc := encS) (o := false) rfl rfl rfl e3) ?_
    refine rdraw.op rfl (x_ld_el (off' := 0) ekS rfl e3 rfl rfl rfl) ?_
    refine rdraw.op rfl rfl (rdraw.op rfl rfl ?_)
    obtain ⟨v4, e4, h7⟩ := bindS h6
    refine rdraw.op rfl (x_ia_lst (enc := encS) (o := false) rfl rfl rfl e4) ?_
    refine rdraw.op rfl (x_ld_el (off' := 0) ekS rfl e4 rfl rfl rfl) ?_
    refine rdraw.gen rfl rfl fun b hb => ?_
    cases b
    ·have h8 := iteBF h7 hb
     refine rdraw.done ?_
     refine RW.keep [0, 1, 5, 25] (a' := [(0, .lst false 1 (fl (encS false) x0) x0.length), (1, .lst false 1 (fl (encS false) x1) x1.length), (5, .int .i64 s1), (25, .bool false)]) (H' := []) rfl rfl ?_
     refine RW.cond_f rfl (RW.skip (RW.reg (rl.run 3 rfl (rl.done ?_))))
     cases h8
     exact hB2 _ rfl _ _ (Gh.ren0 [] .nil rfl (.cons rfl (.dat (ekS.rlst)) (.cons rfl (.dat (ekS.rlst)) (.cons rfl (.dat .int) .nil))))
    ·have h9 := iteBT h7 hb
     refine rdraw.done ?_
     refine RW.keep [0, 1, 5, 25] (a' := [(0, .lst false 1 (fl (encS false) x0) x0.length), (1, .lst false 1 (fl (encS false) x1) x1.length), (5, .int .i64 s1), (25, .bool true)]) (H' := []) rfl rfl ?_
     refine RW.cond_t rfl (RW.sreg (rl.run 1 rfl (rl.done (RW.ret ?_))))
     cases h9
     have h10 := elimL h3 (hE2 _ rfl)
     cases h10
     exact RRet.mk rfl .bool (by first | decide | simp)
  ·intro y2 hC
   have h3 := elimR h3 hC
   refine RW.sreg (rl.run 1 rfl (rl.done (RW.ret ?_)))
   cases h3
   exact RRet.mk rfl .bool (by first | decide | simp)
 ·have h11 := iteBT hF hb
  refine rl.done (RW.cond_t rfl (RW.sreg (rl.run 1 rfl (rl.done (RW.ret ?_)))))
  cases h11
  exact RRet.mk rfl .bool (by first | decide | simp)
theorem law_laws_eqWrite {x0 : TWrite} {x1 : TWrite} {r : Bool} (hF : F_laws_eqWrite x0 x1 = some r) : PCalls Try.prog 156 [.agg (enc_TWrite false x0), .agg (enc_TWrite false x1)] (.bool r) := by
 refine PCalls.of_r k_laws_eqWrite rfl ?_
 unfold F_laws_eqWrite at hF
 refine RW.sreg (rl.run 3 rfl (rl.done (RW.seq (RW.sreg (rl.run 4 rfl ?_)))))
 refine rl.gen rfl rfl fun b hb => ?_
 cases b
 ·have h1 := iteBF hF hb
  refine rl.done (RW.cond_f rfl (RW.skip (RW.seq (RW.sreg (rl.run 4 rfl ?_)))))
  refine rl.gen rfl rfl fun b hb => ?_
  cases b
  ·have h2 := iteBF h1 hb
   refine rl.done ?_
   refine RW.keep [14] (a' := [(14, .bool false)]) (H' := [some ⟨[.int .i64 x0.At, .str x0.Text], 0⟩, some ⟨[.int .i64 x1.At, .str x1.Text], 0⟩]) rfl rfl ?_
   refine RW.cond_f rfl (RW.skip (RW.sreg (rl.run 1 rfl (rl.done (RW.ret ?_)))))
   cases h2
   exact RRet.mk rfl .bool (by first | decide | simp)
  ·have h3 := iteBT h1 hb
   refine rl.done ?_
   refine RW.keep [14] (a' := [(14, .bool true)]) (H' := [some ⟨[.int .i64 x0.At, .str x0.Text], 0⟩, some ⟨[.int .i64 x1.At, .str x1.Text], 0⟩]) rfl rfl ?_
   refine RW.cond_t rfl (RW.sreg (rl.run 1 rfl (rl.done (RW.ret ?_))))
   cases h3
   exact RRet.mk rfl .bool (by first | decide | simp)
 ·have h4 := iteBT hF hb
  refine rl.done (RW.cond_t rfl (RW.sreg (rl.run 1 rfl (rl.done (RW.ret ?_)))))
  cases h4
  exact RRet.mk rfl .bool (by first | decide | simp)
theorem law_laws_eqWriteS {x0 : List TWrite} {x1 : List TWrite} {r : Bool} (hF : F_laws_eqWriteS x0 x1 = some r) : PCalls Try.prog 90 [.lst false 2 (fl (enc_TWrite false) x0) x0.length, .lst false 2 (fl (enc_TWrite false) x1) x1.length] (.bool r) := by
 refine PCalls.of_r k_laws_eqWriteS rfl ?_
 unfold F_laws_eqWriteS at hF
 refine RW.sreg (rl.run 1 rfl (rl.done (RW.seq (RW.sreg (rl.run 4 rfl ?_)))))
 refine rl.gen rfl rfl fun b hb => ?_
 cases b
 ·have h1 := iteBF hF hb
  refine rl.done (RW.cond_f rfl (RW.skip (RW.seq (RW.sreg (rl.run 1 rfl (rl.done ?_))))))
  obtain ⟨y6, ey6, h3⟩ := bindS h1
  refine RW.cutq (σ := Unit) (fun y2 => []) (fun y2 => []) (fun y => y6 = .inr y) (fun _ _ _ _ g h => RW.gh g h) ?_ ?_
  ·refine RW.blk ?_
   refine RW.iter (σ := Int) ey6 (fun s1 => [(0, .lst false 2 (fl (enc_TWrite false) x0) x0.length), (1, .lst false 2 (fl (enc_TWrite false) x1) x1.length), (5, .int .i64 s1)]) (fun s1 => []) (Gh.ren0 [] .nil rfl (.cons rfl (.dat (ek_TWrite.rlst)) (.cons rfl (.dat (ek_TWrite.rlst)) (.cons rfl (.dat .int) .nil)))) (fun s1 B o hS2 hB2 hE2 => ?_)
   unfold S_laws_eqWriteS_1 at hS2
   refine RW.seq (RW.sreg (rl.run 3 rfl ?_))
   refine rl.gen rfl rfl fun b hb => ?_
   cases b
   ·have h4 := iteBF hS2 hb
    refine rl.done (RW.cond_f rfl (RW.exit (blkA_eq ?_)))
    cases h4
    exact ⟨_, (hE2 _ rfl).symm, (Gh.ren0 [] .nil rfl .nil)⟩
   ·have h5 := iteBT hS2 hb
    refine rl.done (RW.cond_t rfl (RW.skip (RW.seq (RW.blk (RW.sdrw (rdraw.op rfl rfl (rdraw.op rfl rfl ?_)))))))
    obtain ⟨v3, e3, h6⟩ := bindS h5
    refine rdraw.op rfl (x_ia_lst (enc := enc_TWrite) (o := false) rfl rfl rfl e3) ?_
    refine rdraw.op rfl (x_ld_ela (off' := 0) (vs := (enc_TWrite false v3)) ek_TWrite rfl e3 rfl rfl rfl) ?_
    refine rdraw.op rfl rfl (rdraw.op rfl rfl ?_)
    obtain ⟨v4, e4, h7⟩ := bindS h6
    refine rdraw.op rfl (x_ia_lst (enc := enc_TWrite) (o := false) rfl rfl rfl e4) ?_
    refine rdraw.op rfl (x_ld_ela (off' := 0) (vs := (enc_TWrite false v4)) ek_TWrite rfl e4 rfl rfl rfl) ?_
    obtain ⟨v5, e5, h8⟩ := bindS h7
    refine rdraw.call rfl rfl rfl (CallW.val (r' := .bool v5) ok_laws_eqWrite (law_laws_eqWrite e5) (.cons (.dat (.agg (ek_TWrite.dat false _))) (.cons (.dat (.agg (ek_TWrite.dat false _))) .nil)) .refl ⟨rfl, ?_⟩)
    cases hb : v5
    ·have h9 := iteBF h8 hb
     refine rdraw.op rfl rfl (rdraw.done ?_)
     refine RW.keep [0, 1, 5, 26] (a' := [(0, .lst false 2 (fl (enc_TWrite false) x0) x0.length), (1, .lst false 2 (fl (enc_TWrite false) x1) x1.length), (5, .int .i64 s1), (26, .bool true)]) (H' := []) rfl rfl ?_
     refine RW.cond_t rfl (RW.sreg (rl.run 1 rfl (rl.done (RW.ret ?_))))
     cases h9
     have h10 := elimL h3 (hE2 _ rfl)
     cases h10
     exact RRet.mk rfl .bool (by first | decide | simp)
    ·have h11 := iteBT h8 hb
     refine rdraw.op rfl rfl (rdraw.done ?_)
     refine RW.keep [0, 1, 5, 26] (a' := [(0, .lst false 2 (fl (enc_TWrite false) x0) x0.length), (1, .lst false 2 (fl (enc_TWrite false) x1) x1.length), (5, .int .i64 s1), (26, .bool false)]) (H' := []) rfl rfl ?_
     refine RW.cond_f rfl (RW.skip (RW.reg (rl.run 3 rfl (rl.done ?_))))
     cases h11
     exact hB2 _ rfl _ _ (Gh.ren0 [] .nil rfl (.cons rfl (.dat (ek_TWrite.rlst)) (.cons rfl (.dat (ek_TWrite.rlst)) (.cons rfl (.dat .int) .nil))))
  ·intro y2 hC
   have h3 := elimR h3 hC
   refine RW.sreg (rl.run 1 rfl (rl.done (RW.ret ?_)))
   cases h3
   exact RRet.mk rfl .bool (by first | decide | simp)
 ·have h12 := iteBT hF hb
  refine rl.done (RW.cond_t rfl (RW.sreg (rl.run 1 rfl (rl.done (RW.ret ?_)))))
  cases h12
  exact RRet.mk rfl .bool (by first | decide | simp)
theorem law_laws_eqDisk {x0 : TDisk} {x1 : TDisk} {r : Bool} (hF : F_laws_eqDisk x0 x1 = some r) : PCalls Try.prog 44 [.agg (enc_TDisk false x0), .agg (enc_TDisk false x1)] (.bool r) := by
 refine PCalls.of_r k_laws_eqDisk rfl ?_
 unfold F_laws_eqDisk at hF
 refine RW.sreg (rl.run 3 rfl (rl.done (RW.seq (RW.sreg (rl.run 4 rfl ?_)))))
 obtain ⟨v1, e1, h1⟩ := bindS hF
 refine rl.call rfl rfl rfl (CallW.val (r' := .bool v1) ok_laws_eqStringS (law_laws_eqStringS e1) (.cons (.lst ekS) (.cons (.lst ekS) .nil)) .refl ?_)
 cases hb : v1
 ·have h2 := iteBF h1 hb
  refine rl.run 1 rfl (rl.done (RW.cond_t rfl (RW.sreg (rl.run 1 rfl (rl.done (RW.ret ?_))))))
  cases h2
  exact RRet.mk rfl .bool (by first | decide | simp)
 ·have h3 := iteBT h1 hb
  refine rl.run 1 rfl (rl.done (RW.cond_f rfl (RW.skip (RW.seq (RW.sreg (rl.run 4 rfl ?_))))))
  obtain ⟨v2, e2, h4⟩ := bindS h3
  refine rl.call rfl rfl rfl (CallW.val (r' := .bool v2) ok_laws_eqWriteS (law_laws_eqWriteS e2) (.cons (.lst ek_TWrite) (.cons (.lst ek_TWrite) .nil)) .refl ?_)
  cases hb : v2
  ·have h5 := iteBF h4 hb
   refine rl.run 1 rfl (rl.done ?_)
   refine RW.keep [16] (a' := [(16, .bool true)]) (H' := [some ⟨[.lst false 1 (fl (encS false) x0.Sectors) x0.Sectors.length, .lst false 2 (fl (enc_TWrite false) x0.Cache) x0.Cache.length], 0⟩, some ⟨[.lst false 1 (fl (encS false) x1.Sectors) x1.Sectors.length, .lst false 2 (fl (enc_TWrite false) x1.Cache) x1.Cache.length], 0⟩]) rfl rfl ?_
   refine RW.cond_t rfl (RW.sreg (rl.run 1 rfl (rl.done (RW.ret ?_))))
   cases h5
   exact RRet.mk rfl .bool (by first | decide | simp)
  ·have h6 := iteBT h4 hb
   refine rl.run 1 rfl (rl.done ?_)
   refine RW.keep [16] (a' := [(16, .bool false)]) (H' := [some ⟨[.lst false 1 (fl (encS false) x0.Sectors) x0.Sectors.length, .lst false 2 (fl (enc_TWrite false) x0.Cache) x0.Cache.length], 0⟩, some ⟨[.lst false 1 (fl (encS false) x1.Sectors) x1.Sectors.length, .lst false 2 (fl (enc_TWrite false) x1.Cache) x1.Cache.length], 0⟩]) rfl rfl ?_
   refine RW.cond_f rfl (RW.skip (RW.sreg (rl.run 1 rfl (rl.done (RW.ret ?_)))))
   cases h6
   exact RRet.mk rfl .bool (by first | decide | simp)
theorem law_laws_markText {x0 : Int} {r : List UInt8} (hF : F_laws_markText x0 = some r) : PCalls Try.prog 74 [.int .i64 x0] (.str r) := by
 refine PCalls.of_r k_laws_markText rfl ?_
 unfold F_laws_markText at hF
 refine RW.sreg (rl.run 1 rfl (rl.done (RW.seq (RW.sreg (rl.run 1 rfl ?_)))))
 refine rl.gen rfl rfl fun b hb => ?_
 cases b
 ·have h1 := iteBF hF hb
  refine rl.done (RW.cond_f rfl (RW.skip (RW.sreg (rl.run 1 rfl (rl.done (RW.seq ?_))))))
  obtain ⟨y4, ey4, h3⟩ := bindS h1
  refine RW.cutq (σ := (List UInt8)) (fun y2 => [(3, .str y2)]) (fun y2 => []) (fun y => y4 = y) (fun _ _ _ _ g h => RW.gh g h) ?_ ?_
  ·refine RW.blk ?_
   refine RW.iter (σ := Int × (List UInt8)) ey4 (fun s1 => [(0, .int .i64 s1.1), (3, .str s1.2)]) (fun s1 => []) (Gh.ren0 [] .nil rfl (.cons rfl (.dat .int) (.cons rfl (.dat .str) .nil))) (fun s1 B o hS2 hB2 hE2 => ?_)
   unfold S_laws_markText_1 at hS2
   refine RW.seq (RW.sreg (rl.run 1 rfl ?_))
   refine rl.gen rfl rfl fun b hb => ?_
   cases b
   ·have h4 := iteBF hS2 hb
    refine rl.done (RW.cond_f rfl (RW.exit (blkA_eq ?_)))
    cases h4
    exact ⟨_, (hE2 _ rfl).symm, (Gh.ren0 [] .nil rfl (.cons rfl (.dat .str) .nil))⟩
   ·have h5 := iteBT hS2 hb
    refine rl.done (RW.cond_t rfl (RW.skip (RW.blk (RW.sreg (rl.run 5 rfl ?_)))))
    refine rl.op (x_cvb_sl (o := true) (l := [IntKind.u8.wrap (w64 (48 + (Int.tmod s1.1 10)))]) rfl rfl) ?_
    refine rl.run 1 rfl ?_
    obtain ⟨v3, e3, h6⟩ := bindS h5
    refine rl.op (x_cat rfl rfl e3) ?_
    refine rl.run 1 rfl (rl.done (RW.reg (rl.run 3 rfl (rl.done ?_))))
    cases h6
    exact hB2 _ rfl _ _ (Gh.ren0 [] .nil rfl (.cons rfl (.dat .int) (.cons rfl (.dat .str) .nil)))
  ·intro y2 hC
   subst hC
   refine RW.sreg (rl.run 1 rfl ?_)
   obtain ⟨v5, e5, h7⟩ := bindS h3
   refine rl.op (x_cat rfl rfl e5) ?_
   refine rl.run 1 rfl (rl.done (RW.ret ?_))
   cases h7
   exact RRet.mk rfl .str (by first | decide | simp)
 ·have h8 := iteBT hF hb
  refine rl.done (RW.cond_t rfl (RW.sreg (rl.run 1 rfl (rl.done (RW.ret ?_)))))
  cases h8
  exact RRet.mk rfl .str (by first | decide | simp)
theorem law_laws_markStringS_w {x0 : List (List UInt8)} {x1 : Int} {r : Int × (List (List UInt8))} (hF : F_laws_markStringS_w x0 x1 = some r) : ACalls Try.prog 0 91 [.sl 0 0 x0.length, .int .i64 x1] [some ⟨fl (encS true) x0, 1⟩] (.int .i64 r.1) [some ⟨fl (encS true) r.2, 1⟩] := by
 refine ACalls.of_s k_laws_markStringS rfl ?_
 unfold F_laws_markStringS_w at hF
 refine RW.sreg (rl.run 1 rfl (rl.done (RW.seq (RW.sreg (rl.run 1 rfl (rl.done ?_))))))
 obtain ⟨y6, ey6, h2⟩ := bindS hF
 refine RW.cutq (σ := Int × (List (List UInt8))) (fun y2 => [(1, .int .i64 y2.1)]) (fun y2 => [some ⟨fl (encS true) y2.2, 1⟩]) (fun y => y6 = y) (fun _ _ _ _ g h => RW.gh g h) ?_ ?_
 ·refine RW.blk ?_
  refine RW.iter (σ := Int × Int × (List (List UInt8))) ey6 (fun s1 => [(0, .sl 0 0 s1.2.2.length), (1, .int .i64 s1.1), (5, .int .i64 s1.2.1)]) (fun s1 => [some ⟨fl (encS true) s1.2.2, 1⟩]) (Gh.renN [0] (.same rfl (ekS.fref _ _) .nil) rfl rfl rfl (.cons rfl (.slq rfl rfl) (.cons rfl (.dat .int) (.cons rfl (.dat .int) .nil)))) (fun s1 B o hS1 hB1 hE1 => ?_)
  unfold S_laws_markStringS_w_1 at hS1
  refine RW.seq (RW.sreg (rl.run 3 rfl ?_))
  refine rl.gen rfl rfl fun b hb => ?_
  cases b
  ·have h3 := iteBF hS1 hb
   refine rl.done (RW.cond_f rfl (RW.exit (blkA_eq ?_)))
   cases h3
   exact ⟨_, (hE1 _ rfl).symm, (Gh.renN [0] (.same rfl (ekS.fref _ _) .nil) rfl rfl rfl (.cons rfl (.dat .int) .nil))⟩
  ·have h4 := iteBT hS1 hb
   refine rl.done (RW.cond_t rfl (RW.skip (RW.seq (RW.blk (RW.sreg (rl.run 3 rfl ?_))))))
   obtain ⟨v3, e3, h5⟩ := bindS h4
   refine rl.call rfl rfl rfl (CallW.val (r' := .str v3) ok_laws_markText (law_laws_markText e3) (.cons .int .nil) .refl ?_)
   obtain ⟨v4, e4, h6⟩ := bindS h5
   refine rl.op (x_ia_sl rfl rfl rfl rfl e4) ?_
   obtain ⟨v5, e5, h7⟩ := bindS h6
   refine rl.op0 (x_st_sl' (off' := 0) (o := true) (e' := v3) ekS e4 rfl rfl rfl rfl rfl rfl rfl rfl rfl e5) ?_
   refine rl.done (RW.reg (rl.run 3 rfl (rl.done (RW.reg (rl.run 3 rfl (rl.done ?_))))))
   cases h7
   exact hB1 _ rfl _ _ (Gh.renN [0] (.same rfl (ekS.fref _ _) .nil) rfl rfl rfl (.cons rfl (.slq rfl (set'_len e5)) (.cons rfl (.dat .int) (.cons rfl (.dat .int) .nil))))
 ·intro y2 hC
  subst hC
  refine RW.sreg (rl.run 2 rfl (rl.done (RW.ret ?_)))
  cases h2
  exact RRetS.mk rfl .int (Gh.renN [0] (.same rfl (ekS.fref _ _) .nil) rfl rfl rfl .nil)
theorem law_laws_markWriteS_w {x0 : List TWrite} {x1 : Int} {r : Int × (List TWrite)} (hF : F_laws_markWriteS_w x0 x1 = some r) : ACalls Try.prog 0 92 [.sl 0 0 x0.length, .int .i64 x1] [some ⟨fl (enc_TWrite true) x0, 2⟩] (.int .i64 r.1) [some ⟨fl (enc_TWrite true) r.2, 2⟩] := by
 refine ACalls.of_s k_laws_markWriteS rfl ?_
 unfold F_laws_markWriteS_w at hF
 refine RW.sreg (rl.run 1 rfl (rl.done (RW.seq (RW.sreg (rl.run 1 rfl (rl.done ?_))))))
 obtain ⟨y8, ey8, h2⟩ := bindS hF
 refine RW.cutq (σ := Int × (List TWrite)) (fun y2 => [(1, .int .i64 y2.1)]) (fun y2 => [some ⟨fl (enc_TWrite true) y2.2, 2⟩]) (fun y => y8 = y) (fun _ _ _ _ g h => RW.gh g h) ?_ ?_
 ·refine RW.blk ?_
  refine RW.iter (σ := Int × Int × (List TWrite)) ey8 (fun s1 => [(0, .sl 0 0 s1.2.2.length), (1, .int .i64 s1.1), (5, .int .i64 s1.2.1)]) (fun s1 => [some ⟨fl (enc_TWrite true) s1.2.2, 2⟩]) (Gh.renN [0] (.same rfl (ek_TWrite.fref _ _) .nil) rfl rfl rfl (.cons rfl (.slq rfl rfl) (.cons rfl (.dat .int) (.cons rfl (.dat .int) .nil)))) (fun s1 B o hS1 hB1 hE1 => ?_)
  unfold S_laws_markWriteS_w_1 at hS1
  refine RW.seq (RW.sreg (rl.run 3 rfl ?_))
  refine rl.gen rfl rfl fun b hb => ?_
  cases b
  ·have h3 := iteBF hS1 hb
   refine rl.done (RW.cond_f rfl (RW.exit (blkA_eq ?_)))
   cases h3
   exact ⟨_, (hE1 _ rfl).symm, (Gh.renN [0] (.same rfl (ek_TWrite.fref _ _) .nil) rfl rfl rfl (.cons rfl (.dat .int) .nil))⟩
  ·have h4 := iteBT hS1 hb
   refine rl.done (RW.cond_t rfl (RW.skip (RW.seq (RW.blk (RW.sreg (rl.run 3 rfl ?_))))))
   obtain ⟨v3, e3, h5⟩ := bindS h4
   refine rl.op (x_ia_sl rfl rfl rfl rfl e3) ?_
   refine rl.run 1 rfl ?_
   obtain ⟨v4, e4, h6⟩ := bindS h5
   refine rl.op0 (x_st_sl' (off' := 0) (o := true) (e' := ({ At := s1.1, Text := v3.Text } : TWrite)) ek_TWrite e3 rfl rfl rfl rfl rfl rfl rfl rfl rfl e4) ?_
   refine rl.done (RW.sreg (rl.run 3 rfl (rl.done ?_)))
   refine RW.keep [0, 1, 5] (a' := [(0, .sl 0 0 s1.2.2.length), (1, .int .i64 (w64 (s1.1 + 1))), (5, .int .i64 s1.2.1)]) (H' := [some ⟨fl (enc_TWrite true) v4, 2⟩]) rfl rfl ?_
   refine RW.sreg (rl.run 3 rfl ?_)
   obtain ⟨v5, e5, h7⟩ := bindS h6
   refine rl.call rfl rfl rfl (CallW.val (r' := .str v5) ok_laws_markText (law_laws_markText e5) (.cons .int .nil) .refl ?_)
   obtain ⟨v6, e6, h8⟩ := bindS h7
   refine rl.op (x_ia_sl rfl rfl rfl (set'_len e4) e6) ?_
   refine rl.run 1 rfl ?_
   obtain ⟨v7, e7, h9⟩ := bindS h8
   refine rl.op0 (x_st_sl' (off' := 1) (o := true) (e' := ({ At := v6.At, Text := v5 } : TWrite)) ek_TWrite e6 rfl rfl rfl rfl rfl rfl rfl rfl rfl e7) ?_
   refine rl.done (RW.reg (rl.run 3 rfl (rl.done (RW.reg (rl.run 3 rfl (rl.done ?_))))))
   cases h9
   exact hB1 _ rfl _ _ (Gh.renN [0] (.same rfl (ek_TWrite.fref _ _) .nil) rfl rfl rfl (.cons rfl (.slq rfl ((set'_len e4).trans (set'_len e7))) (.cons rfl (.dat .int) (.cons rfl (.dat .int) .nil))))
 ·intro y2 hC
  subst hC
  refine RW.sreg (rl.run 2 rfl (rl.done (RW.ret ?_)))
  cases h2
  exact RRetS.mk rfl .int (Gh.renN [0] (.same rfl (ek_TWrite.fref _ _) .nil) rfl rfl rfl .nil)
theorem law_laws_markDisk_w {x0 : List (List UInt8)} {x1 : List TWrite} {x2 : Int} {r : Int × (List (List UInt8)) × (List TWrite)} (hF : F_laws_markDisk_w x0 x1 x2 = some r) : ACalls Try.prog 0 45 [.agg [.sl 0 0 x0.length, .sl 1 0 x1.length], .int .i64 x2] [some ⟨fl (encS true) x0, 1⟩, some ⟨fl (enc_TWrite true) x1, 2⟩] (.int .i64 r.1) [some ⟨fl (encS true) r.2.1, 1⟩, some ⟨fl (enc_TWrite true) r.2.2, 2⟩] := by
 refine ACalls.of_s k_laws_markDisk rfl ?_
 unfold F_laws_markDisk_w at hF
 refine RW.sreg (rl.run 2 rfl (rl.done (RW.sreg (rl.run 3 rfl ?_))))
 obtain ⟨v1, e1, h1⟩ := bindS hF
 refine rl.call rfl rfl rfl (CallW.embW (r0 := .int .i64 v1.1) (H' := [some ⟨fl (encS true) v1.2, 1⟩, some ⟨fl (enc_TWrite true) x1, 2⟩, some ⟨[.sl 0 0 x0.length, .sl 1 0 x1.length], 0⟩]) [⟨fl (encS true) x0, 1⟩] [⟨fl (encS true) v1.2, 1⟩] [0] ok_laws_markStringS (law_laws_markStringS_w (guardO_s e1)) (.cons rfl (ekS.fref _ _) (ekS.fown _) .nil) rfl (.cons (.slq rfl rfl) (.cons (.dat .int) .nil)) .int rfl rfl ?_)
 refine rl.run 1 rfl (rl.done (RW.sreg (rl.run 3 rfl ?_)))
 obtain ⟨v2, e2, h2⟩ := bindS h1
 refine rl.call rfl rfl rfl (CallW.embW (r0 := .int .i64 v2.1) (H' := [some ⟨fl (encS true) v1.2, 1⟩, some ⟨fl (enc_TWrite true) v2.2, 2⟩, some ⟨[.sl 0 0 x0.length, .sl 1 0 x1.length], 0⟩]) [⟨fl (enc_TWrite true) x1, 2⟩] [⟨fl (enc_TWrite true) v2.2, 2⟩] [1] ok_laws_markWriteS (law_laws_markWriteS_w (guardO_s e2)) (.cons rfl (ek_TWrite.fref _ _) (ek_TWrite.fown _) .nil) rfl (.cons (.slq rfl rfl) (.cons (.dat .int) .nil)) .int rfl rfl ?_)
 refine rl.run 1 rfl (rl.done ?_)
 refine RW.keep [1] (a' := [(1, .int .i64 v2.1)]) (H' := [some ⟨fl (encS true) v1.2, 1⟩, some ⟨fl (enc_TWrite true) v2.2, 2⟩, some ⟨[.sl 0 0 x0.length, .sl 1 0 x1.length], 0⟩]) rfl rfl ?_
 refine RW.sreg (rl.run 2 rfl (rl.done (RW.ret ?_)))
 cases h2
 exact RRetS.mk rfl .int (Gh.renN [0, 1] (.same rfl (ekS.fref _ _) (.same rfl (ek_TWrite.fref _ _) .nil)) rfl rfl rfl .nil)
theorem law_spec_l01In {x0 : Int} {x1 : Int} {x2 : Int} {r : Bool} (hF : F_spec_l01In x0 x1 x2 = some r) : PCalls Try.prog 113 [.int .i64 x0, .int .i64 x1, .int .i64 x2] (.bool r) := by
 refine PCalls.of_r k_spec_l01In rfl ?_
 unfold F_spec_l01In at hF
 refine RW.sreg (rl.run 1 rfl (rl.done (RW.sreg (rl.run 2 rfl ?_))))
 refine rl.gen rfl rfl fun b hb => ?_
 cases b
 ·have h1 := iteBF hF hb
  refine rl.run 6 rfl (rl.done ?_)
  refine RW.keep [6] (a' := [(6, .bool false)]) (H' := []) rfl rfl ?_
  refine RW.ret ?_
  cases h1
  exact RRet.mk rfl .bool (by first | decide | simp)
 ·have h2 := iteBT hF hb
  refine rl.run 6 rfl (rl.done ?_)
  refine RW.keep [6] (a' := [(6, .bool (decide (x0 ≤ x2)))]) (H' := []) rfl rfl ?_
  refine RW.ret ?_
  cases h2
  exact RRet.mk rfl .bool (by first | decide | simp)
theorem law_spec_SegFirst {x0 : Int} {r : Int} (hF : F_spec_SegFirst x0 = some r) : PCalls Try.prog 217 [.int .i64 x0] (.int .i64 r) := by
 refine PCalls.of_r k_spec_SegFirst rfl ?_
 unfold F_spec_SegFirst at hF
 refine RW.sreg (rl.run 1 rfl (rl.done (RW.seq (RW.sreg (rl.run 1 rfl ?_)))))
 obtain ⟨v1, e1, h1⟩ := bindS hF
 refine rl.call rfl rfl rfl (CallW.val (r' := .bool v1) ok_spec_l01In (law_spec_l01In e1) (.cons .int (.cons .int (.cons .int .nil))) .refl ?_)
 cases hb : v1
 ·have h2 := iteBF h1 hb
  refine rl.run 1 rfl (rl.done (RW.cond_t rfl (RW.sreg (rl.run 1 rfl (rl.done (RW.ret ?_))))))
  cases h2
  exact RRet.mk rfl .int (by first | decide | simp)
 ·have h3 := iteBT h1 hb
  refine rl.run 1 rfl (rl.done (RW.cond_f rfl (RW.skip (RW.sreg (rl.run 4 rfl (rl.done (RW.ret ?_)))))))
  cases h3
  exact RRet.mk rfl .int (by first | decide | simp)
theorem law_spec_ReadSector {x0 : TDisk} {x1 : Int} {r : (List UInt8) × Bool} (hF : F_spec_ReadSector x0 x1 = some r) : PCalls Try.prog 147 [.agg (enc_TDisk false x0), .int .i64 x1] (.tup [.str r.1, .bool r.2]) := by
 refine PCalls.of_r k_spec_ReadSector rfl ?_
 unfold F_spec_ReadSector at hF
 refine RW.sreg (rl.run 3 rfl (rl.done (RW.seq (RW.sreg (rl.run 5 rfl ?_)))))
 obtain ⟨v1, e1, h1⟩ := bindS hF
 refine rl.call rfl rfl rfl (CallW.val (r' := .bool v1) ok_spec_l01In (law_spec_l01In e1) (.cons .int (.cons .int (.cons .int .nil))) .refl ?_)
 cases hb : v1
 ·have h2 := iteBF h1 hb
  refine rl.run 1 rfl (rl.done (RW.cond_t rfl (RW.sreg (rl.run 2 rfl (rl.done (RW.ret ?_))))))
  cases h2
  exact RRet.mk rfl (OutT.tup (.cons .str (.cons .bool .nil))) (by first | decide | simp)
 ·have h3 := iteBT h1 hb
  refine rl.run 1 rfl (rl.done (RW.cond_f rfl (RW.skip (RW.seq (RW.sreg (rl.run 5 rfl (rl.done ?_)))))))
  refine RW.keep [1, 2, 6] (a' := [(1, .int .i64 x1), (2, .ptr 0 0), (6, .int .i64 (w64 ((x0.Cache.length : Int) - 1)))]) (H' := [some ⟨[.lst false 1 (fl (encS false) x0.Sectors) x0.Sectors.length, .lst false 2 (fl (enc_TWrite false) x0.Cache) x0.Cache.length], 0⟩]) rfl rfl ?_
  obtain ⟨y6, ey6, h5⟩ := bindS h3
  refine RW.cutq (σ := Unit) (fun y3 => [(1, .int .i64 x1), (2, .ptr 0 0)]) (fun y3 => [some ⟨[.lst false 1 (fl (encS false) x0.Sectors) x0.Sectors.length, .lst false 2 (fl (enc_TWrite false) x0.Cache) x0.Cache.length], 0⟩]) (fun y => y6 = .inr y) (fun _ _ _ _ g h => RW.gh g h) ?_ ?_
  ·refine RW.blk ?_
   refine RW.iter (σ := Int) ey6 (fun s2 => [(1, .int .i64 x1), (2, .ptr 0 0), (6, .int .i64 s2)]) (fun s2 => [some ⟨[.lst false 1 (fl (encS false) x0.Sectors) x0.Sectors.length, .lst false 2 (fl (enc_TWrite false) x0.Cache) x0.Cache.length], 0⟩]) (Gh.ren0 [0] (.cells rfl rfl (.keep (ekS.rlst) (.keep (ek_TWrite.rlst) .nil)) .nil) rfl (.cons rfl (.dat .int) (.cons rfl (.ptr rfl) (.cons rfl (.dat .int) .nil)))) (fun s2 B o hS4 hB4 hE4 => ?_)
   unfold S_spec_ReadSector_1 at hS4
   refine RW.seq (RW.sreg (rl.run 1 rfl ?_))
   refine rl.gen rfl rfl fun b hb => ?_
   cases b
   ·have h6 := iteBF hS4 hb
    refine rl.done (RW.cond_f rfl (RW.exit (blkA_eq ?_)))
    cases h6
    exact ⟨_, (hE4 _ rfl).symm, (Gh.ren0 [0] (.cells rfl rfl (.keep (ekS.rlst) (.keep (ek_TWrite.rlst) .nil)) .nil) rfl (.cons rfl (.dat .int) (.cons rfl (.ptr rfl) .nil)))⟩
   ·have h7 := iteBT hS4 hb
    refine rl.done (RW.cond_t rfl (RW.skip (RW.seq (RW.blk (RW.sreg (rl.run 3 rfl ?_))))))
    obtain ⟨v4, e4, h8⟩ := bindS h7
    refine rl.op (x_ia_lst (enc := enc_TWrite) (o := false) rfl rfl rfl e4) ?_
    refine rl.run 1 rfl ?_
    refine rl.op (x_ld_el (off' := 0) ek_TWrite rfl e4 rfl rfl rfl) ?_
    refine rl.run 1 rfl ?_
    refine rl.gen rfl rfl fun b hb => ?_
    cases b
    ·have h9 := iteBF h8 hb
     refine rl.done (RW.cond_f rfl (RW.skip (RW.reg (rl.run 3 rfl (rl.done ?_)))))
     cases h9
     exact hB4 _ rfl _ _ (Gh.ren0 [0] (.cells rfl rfl (.keep (ekS.rlst) (.keep (ek_TWrite.rlst) .nil)) .nil) rfl (.cons rfl (.dat .int) (.cons rfl (.ptr rfl) (.cons rfl (.dat .int) .nil))))
    ·have h10 := iteBT h8 hb
     refine rl.done (RW.cond_t rfl (RW.sreg (rl.run 3 rfl ?_)))
     obtain ⟨v5, e5, h11⟩ := bindS h10
     refine rl.op (x_ia_lst (enc := enc_TWrite) (o := false) rfl rfl rfl e5) ?_
     refine rl.run 1 rfl ?_
     refine rl.op (x_ld_el (off' := 1) ek_TWrite rfl e5 rfl rfl rfl) ?_
     refine rl.run 2 rfl (rl.done ?_)
     refine RW.keep [4, 5] (a' := [(4, .str v5.Text), (5, .bool true)]) (H' := [some ⟨[.lst false 1 (fl (encS false) x0.Sectors) x0.Sectors.length, .lst false 2 (fl (enc_TWrite false) x0.Cache) x0.Cache.length], 0⟩]) rfl rfl ?_
     refine RW.ret ?_
     cases h11
     have h12 := elimL h5 (hE4 _ rfl)
     cases h12
     exact RRet.mk rfl (OutT.tup (.cons .str (.cons .bool .nil))) (by first | decide | simp)
  ·intro y3 hC
   have h5 := elimR h5 hC
   refine RW.sreg (rl.run 3 rfl ?_)
   obtain ⟨v7, e7, h13⟩ := bindS h5
   refine rl.op (x_ia_lst (enc := encS) (o := false) rfl rfl rfl e7) ?_
   refine rl.op (x_ld_el (off' := 0) ekS rfl e7 rfl rfl rfl) ?_
   refine rl.run 2 rfl (rl.done (RW.ret ?_))
   cases h13
   exact RRet.mk rfl (OutT.tup (.cons .str (.cons .bool .nil))) (by first | decide | simp)
theorem law_spec_SectorText {x0 : TDisk} {x1 : Int} {x2 : Int} {r : (List UInt8) × Bool} (hF : F_spec_SectorText x0 x1 x2 = some r) : PCalls Try.prog 83 [.agg (enc_TDisk false x0), .int .i64 x1, .int .i64 x2] (.tup [.str r.1, .bool r.2]) := by
 refine PCalls.of_r k_spec_SectorText rfl ?_
 unfold F_spec_SectorText at hF
 refine RW.sreg (rl.run 3 rfl (rl.done (RW.seq (RW.sreg (rl.run 1 rfl ?_)))))
 obtain ⟨v1, e1, h1⟩ := bindS hF
 refine rl.call rfl rfl rfl (CallW.val (r' := .bool v1) ok_spec_l01In (law_spec_l01In e1) (.cons .int (.cons .int (.cons .int .nil))) .refl ?_)
 cases hb : v1
 ·have h2 := iteBF h1 hb
  refine rl.run 1 rfl (rl.done (RW.cond_t rfl (RW.sreg (rl.run 2 rfl (rl.done (RW.ret ?_))))))
  cases h2
  exact RRet.mk rfl (OutT.tup (.cons .str (.cons .bool .nil))) (by first | decide | simp)
 ·have h3 := iteBT h1 hb
  refine rl.run 1 rfl (rl.done (RW.cond_f rfl (RW.skip (RW.sreg (rl.run 1 rfl (rl.done (RW.seq (RW.sreg (rl.run 1 rfl (rl.done ?_))))))))))
  obtain ⟨y7, ey7, h5⟩ := bindS h3
  refine RW.cutq (σ := (List UInt8)) (fun y3 => [(8, .str y3)]) (fun y3 => []) (fun y => y7 = .inr y) (fun _ _ _ _ g h => RW.gh g h) ?_ ?_
  ·refine RW.blk ?_
   refine RW.iter (σ := (List UInt8) × Int) ey7 (fun s2 => [(1, .int .i64 x1), (2, .int .i64 x2), (3, .ptr 0 0), (8, .str s2.1), (9, .int .i64 s2.2)]) (fun s2 => [some ⟨[.lst false 1 (fl (encS false) x0.Sectors) x0.Sectors.length, .lst false 2 (fl (enc_TWrite false) x0.Cache) x0.Cache.length], 0⟩]) (Gh.ren0 [0] (.cells rfl rfl (.keep (ekS.rlst) (.keep (ek_TWrite.rlst) .nil)) .nil) rfl (.cons rfl (.dat .int) (.cons rfl (.dat .int) (.cons rfl (.ptr rfl) (.cons rfl (.dat .str) (.cons rfl (.dat .int) .nil)))))) (fun s2 B o hS4 hB4 hE4 => ?_)
   unfold S_spec_SectorText_1 at hS4
   refine RW.seq (RW.sreg (rl.run 2 rfl ?_))
   refine rl.gen rfl rfl fun b hb => ?_
   cases b
   ·have h6 := iteBF hS4 hb
    refine rl.done (RW.cond_f rfl (RW.exit (blkA_eq ?_)))
    cases h6
    exact ⟨_, (hE4 _ rfl).symm, (Gh.ren0 [] .nil rfl (.cons rfl (.dat .str) .nil))⟩
   ·have h7 := iteBT hS4 hb
    refine rl.done (RW.cond_t rfl (RW.skip (RW.seq (RW.blk (RW.seq (RW.seq ?_))))))
    obtain ⟨y4, ey4, h8⟩ := bindS h7
    refine RW.cutq (σ := Bool) (fun y4 => [(1, .int .i64 x1), (2, .int .i64 x2), (3, .ptr 0 0), (8, .str s2.1), (9, .int .i64 s2.2), (28, .bool y4)]) (fun y4 => [some ⟨[.lst false 1 (fl (encS false) x0.Sectors) x0.Sectors.length, .lst false 2 (fl (enc_TWrite false) x0.Cache) x0.Cache.length], 0⟩]) (fun y => y4 = y) (fun _ _ _ _ g h => RW.gh g h) ?_ ?_
    ·refine RW.reg ?_
     refine rl.run 1 rfl ?_
     refine rl.gen rfl rfl fun b hb => ?_
     cases b
     ·have h9 := iteBF ey4 hb
      refine rl.run 5 rfl ?_
      refine rl.gen rfl rfl fun b hb => ?_
      cases b
      ·have h10 := iteBF h9 hb
       refine rl.run 1 rfl (rl.done ?_)
       cases h10
       exact ⟨_, rfl, (Gh.ren0 [0] (.cells rfl rfl (.keep (ekS.rlst) (.keep (ek_TWrite.rlst) .nil)) .nil) rfl (.cons rfl (.dat .int) (.cons rfl (.dat .int) (.cons rfl (.ptr rfl) (.cons rfl (.dat .str) (.cons rfl (.dat .int) (.cons rfl (.dat .bool) .nil)))))))⟩
      ·have h11 := iteBT h9 hb
       refine rl.run 1 rfl (rl.done ?_)
       cases h11
       exact ⟨_, rfl, (Gh.ren0 [0] (.cells rfl rfl (.keep (ekS.rlst) (.keep (ek_TWrite.rlst) .nil)) .nil) rfl (.cons rfl (.dat .int) (.cons rfl (.dat .int) (.cons rfl (.ptr rfl) (.cons rfl (.dat .str) (.cons rfl (.dat .int) (.cons rfl (.dat .bool) .nil)))))))⟩
     ·have h12 := iteBT ey4 hb
      refine rl.run 7 rfl (rl.done ?_)
      cases h12
      exact ⟨_, rfl, (Gh.ren0 [0] (.cells rfl rfl (.keep (ekS.rlst) (.keep (ek_TWrite.rlst) .nil)) .nil) rfl (.cons rfl (.dat .int) (.cons rfl (.dat .int) (.cons rfl (.ptr rfl) (.cons rfl (.dat .str) (.cons rfl (.dat .int) (.cons rfl (.dat .bool) .nil)))))))⟩
    ·intro y hC
     subst hC
     cases hb : y4
     ·have h13 := iteBF h8 hb
      refine RW.cond_f rfl (RW.skip (RW.sreg (rl.run 4 rfl ?_)))
      obtain ⟨v5, e5, h14⟩ := bindS h13
      refine rl.call rfl rfl rfl (CallW.val (r' := .tup [.str v5.1, .bool v5.2]) ok_spec_ReadSector (law_spec_ReadSector e5) (.cons (DFL.agg (.cons (.lst ekS) (.cons (.lst ek_TWrite) .nil))) (.cons .int .nil)) (FlL.tup (.cons .refl (.cons .refl .nil))) ?_)
      refine rl.run 5 rfl (rl.done (RW.seq (RW.sreg (rl.run 2 rfl (rl.done ?_)))))
      refine RW.keep [1, 2, 3, 8, 9, 10, 38] (a' := [(1, .int .i64 x1), (2, .int .i64 x2), (3, .ptr 0 0), (8, .str s2.1), (9, .int .i64 s2.2), (10, .str v5.1), (38, .bool (!v5.2))]) (H' := [some ⟨[.lst false 1 (fl (encS false) x0.Sectors) x0.Sectors.length, .lst false 2 (fl (enc_TWrite false) x0.Cache) x0.Cache.length], 0⟩]) rfl rfl ?_
      cases hb : (!v5.2)
      ·have h15 := iteBF h14 hb
       refine RW.cond_f rfl (RW.skip (RW.reg (rl.run 2 rfl ?_)))
       obtain ⟨v6, e6, h16⟩ := bindS h15
       refine rl.op (x_cat rfl rfl e6) ?_
       refine rl.run 1 rfl (rl.done (RW.reg (rl.run 3 rfl (rl.done ?_))))
       cases h16
       exact hB4 _ rfl _ _ (Gh.ren0 [0] (.cells rfl rfl (.keep (ekS.rlst) (.keep (ek_TWrite.rlst) .nil)) .nil) rfl (.cons rfl (.dat .int) (.cons rfl (.dat .int) (.cons rfl (.ptr rfl) (.cons rfl (.dat .str) (.cons rfl (.dat .int) .nil))))))
      ·have h17 := iteBT h14 hb
       refine RW.cond_t rfl (RW.sreg (rl.run 2 rfl (rl.done (RW.ret ?_))))
       cases h17
       have h18 := elimL h5 (hE4 _ rfl)
       cases h18
       exact RRet.mk rfl (OutT.tup (.cons .str (.cons .bool .nil))) (by first | decide | simp)
     ·have h19 := iteBT h8 hb
      refine RW.cond_t rfl (RW.sreg (rl.run 2 rfl (rl.done (RW.ret ?_))))
      cases h19
      have h20 := elimL h5 (hE4 _ rfl)
      cases h20
      exact RRet.mk rfl (OutT.tup (.cons .str (.cons .bool .nil))) (by first | decide | simp)
  ·intro y3 hC
   have h5 := elimR h5 hC
   refine RW.sreg (rl.run 3 rfl (rl.done (RW.ret ?_)))
   cases h5
   exact RRet.mk rfl (OutT.tup (.cons .str (.cons .bool .nil))) (by first | decide | simp)
theorem law_spec_SegText {x0 : TDisk} {x1 : Int} {r : List UInt8} (hF : F_spec_SegText x0 x1 = some r) : PCalls Try.prog 205 [.agg (enc_TDisk false x0), .int .i64 x1] (.str r) := by
 refine PCalls.of_r k_spec_SegText rfl ?_
 unfold F_spec_SegText at hF
 refine RW.sreg (rl.run 2 rfl (rl.done (RW.seq (RW.sreg (rl.run 1 rfl ?_)))))
 obtain ⟨v1, e1, h1⟩ := bindS hF
 refine rl.call rfl rfl rfl (CallW.val (r' := .bool v1) ok_spec_l01In (law_spec_l01In e1) (.cons .int (.cons .int (.cons .int .nil))) .refl ?_)
 cases hb : v1
 ·have h2 := iteBF h1 hb
  refine rl.run 1 rfl (rl.done (RW.cond_t rfl (RW.sreg (rl.run 1 rfl (rl.done (RW.ret ?_))))))
  cases h2
  exact RRet.mk rfl .str (by first | decide | simp)
 ·have h3 := iteBT h1 hb
  refine rl.run 1 rfl (rl.done (RW.cond_f rfl (RW.skip (RW.sdrw (rdraw.op rfl rfl (rdraw.op rfl rfl ?_))))))
  obtain ⟨v2, e2, h4⟩ := bindS h3
  refine rdraw.call rfl rfl rfl (CallW.val (r' := .int .i64 v2) ok_spec_SegFirst (law_spec_SegFirst e2) (.cons .int .nil) .refl ⟨rfl, ?_⟩)
  obtain ⟨v3, e3, h5⟩ := bindS h4
  refine rdraw.call rfl rfl rfl (CallW.val (r' := .tup [.str v3.1, .bool v3.2]) ok_spec_SectorText (law_spec_SectorText e3) (.cons (DFL.agg (.cons (.lst ekS) (.cons (.lst ek_TWrite) .nil))) (.cons .int (.cons .int .nil))) (FlL.tup (.cons .refl (.cons .refl .nil))) ⟨rfl, ?_⟩)
  refine rdraw.op rfl rfl (rdraw.op rfl rfl (rdraw.op rfl rfl (rdraw.op rfl rfl (rdraw.op rfl rfl (rdraw.done ?_)))))
  refine RW.keep [5] (a' := [(5, .str v3.1)]) (H' := [some ⟨[.lst false 1 (fl (encS false) x0.Sectors) x0.Sectors.length, .lst false 2 (fl (enc_TWrite false) x0.Cache) x0.Cache.length], 0⟩]) rfl rfl ?_
  refine RW.sreg (rl.run 2 rfl (rl.done (RW.ret ?_)))
  cases h5
  exact RRet.mk rfl .str (by first | decide | simp)
theorem law_spec_l01Var {x0 : Int} {r : List UInt8} (hF : F_spec_l01Var x0 = some r) : PCalls Try.prog 158 [.int .i64 x0] (.str r) := by
 refine PCalls.of_r k_spec_l01Var rfl ?_
 unfold F_spec_l01Var at hF
 refine RW.sreg (rl.run 1 rfl (rl.done (RW.sreg (rl.run 2 rfl (rl.done (RW.seq ?_))))))
 refine RW.gh (Gh.nil_t 3 1 rfl) ?_
 obtain ⟨y4, ey4, h2⟩ := bindS hF
 refine RW.cutq (σ := Int × (List Int)) (fun y2 => [(0, .int .i64 y2.1), (3, .sl 0 0 y2.2.length)]) (fun y2 => [some ⟨fl (encB true) y2.2, 1⟩]) (fun y => y4 = y) (fun _ _ _ _ g h => RW.gh g h) ?_ ?_
 ·refine RW.blk ?_
  refine RW.iter (σ := Int × (List Int)) ey4 (fun s1 => [(0, .int .i64 s1.1), (3, .sl 0 0 s1.2.length)]) (fun s1 => [some ⟨fl (encB true) s1.2, 1⟩]) (Gh.ren0 [0] (.same rfl (ekB.fref _ _) .nil) rfl (.cons rfl (.dat .int) (.cons rfl (.slq rfl rfl) .nil))) (fun s1 B o hS1 hB1 hE1 => ?_)
  unfold S_spec_l01Var_1 at hS1
  refine RW.seq (RW.sreg (rl.run 1 rfl ?_))
  refine rl.gen rfl rfl fun b hb => ?_
  cases b
  ·have h3 := iteBF hS1 hb
   refine rl.done (RW.cond_f rfl (RW.exit (blkA_eq ?_)))
   cases h3
   exact ⟨_, (hE1 _ rfl).symm, (Gh.ren0 [0] (.same rfl (ekB.fref _ _) .nil) rfl (.cons rfl (.dat .int) (.cons rfl (.slq rfl rfl) .nil)))⟩
  ·have h4 := iteBT hS1 hb
   refine rl.done (RW.cond_t rfl (RW.skip (RW.blk (RW.sreg (rl.run 6 rfl ?_)))))
   obtain ⟨v3, e3, h5⟩ := bindS h4
   refine rl.op (x_app rfl rfl (rapp_sl (l := s1.2) (m := [IntKind.u8.wrap (w64 ((Int.tmod s1.1 128) + 128))]) (o := true) ekB rfl rfl (acont_slq (m := [IntKind.u8.wrap (w64 ((Int.tmod s1.1 128) + 128))]) (o := true) fkB rfl rfl) rfl (fkB.fst _ _) e3)) ?_
   refine rl.run 1 rfl (rl.done (RW.reg (rl.run 3 rfl (rl.done ?_))))
   cases h5
   exact hB1 _ rfl _ _ (Gh.ren0 [2] (.same rfl (ekB.fref _ _) .nil) rfl (.cons rfl (.dat .int) (.cons rfl (.slq rfl rfl) .nil)))
 ·intro y2 hC
  subst hC
  refine RW.sreg (rl.run 4 rfl ?_)
  obtain ⟨v5, e5, h6⟩ := bindS h2
  refine rl.op (x_app rfl rfl (rapp_sl (l := y4.2) (m := [IntKind.u8.wrap y4.1]) (o := true) ekB rfl rfl (acont_slq (m := [IntKind.u8.wrap y4.1]) (o := true) fkB rfl rfl) rfl (fkB.fst _ _) e5)) ?_
  refine rl.op (x_cvb_sl (o := true) (l := v5) rfl rfl) ?_
  refine rl.run 1 rfl (rl.done (RW.ret ?_))
  cases h6
  exact RRet.mk rfl .str (by first | decide | simp)
theorem law_spec_ReadVar {x0 : List UInt8} {x1 : Int} {r : Int × Int × Bool} (hF : F_spec_ReadVar x0 x1 = some r) : PCalls Try.prog 196 [.str x0, .int .i64 x1] (.tup [.int .i64 r.1, .int .i64 r.2.1, .bool r.2.2]) := by
 refine PCalls.of_r k_spec_ReadVar rfl ?_
 unfold F_spec_ReadVar at hF
 refine RW.sreg (rl.run 3 rfl (rl.done (RW.seq (RW.sreg (rl.run 3 rfl ?_)))))
 obtain ⟨v1, e1, h1⟩ := bindS hF
 refine rl.call rfl rfl rfl (CallW.val (r' := .bool v1) ok_spec_l01In (law_spec_l01In e1) (.cons .int (.cons .int (.cons .int .nil))) .refl ?_)
 cases hb : v1
 ·have h2 := iteBF h1 hb
  refine rl.run 1 rfl (rl.done (RW.cond_t rfl (RW.sreg (rl.run 3 rfl (rl.done (RW.ret ?_))))))
  cases h2
  exact RRet.mk rfl (OutT.tup (.cons .int (.cons .int (.cons .bool .nil)))) (by first | decide | simp)
 ·have h3 := iteBT h1 hb
  refine rl.run 1 rfl (rl.done (RW.cond_f rfl (RW.skip (RW.sreg (rl.run 1 rfl (rl.done (RW.sreg (rl.run 1 rfl (rl.done (RW.seq (RW.sreg ?_)))))))))))
  refine rl.run 2 rfl (rl.done ?_)
  obtain ⟨y10, ey10, h5⟩ := bindS h3
  refine RW.cutq (σ := Unit) (fun y3 => []) (fun y3 => []) (fun y => y10 = .inr y) (fun _ _ _ _ g h => RW.gh g h) ?_ ?_
  ·refine RW.blk ?_
   refine RW.iter (σ := Int × Int × Int) ey10 (fun s2 => [(0, .str x0), (1, .int .i64 x1), (7, .int .i64 s2.1), (8, .int .i64 s2.2.1), (9, .int .i64 s2.2.2)]) (fun s2 => []) (Gh.ren0 [] .nil rfl (.cons rfl (.dat .str) (.cons rfl (.dat .int) (.cons rfl (.dat .int) (.cons rfl (.dat .int) (.cons rfl (.dat .int) .nil)))))) (fun s2 B o hS4 hB4 hE4 => ?_)
   unfold S_spec_ReadVar_1 at hS4
   refine RW.seq (RW.seq ?_)
   obtain ⟨y4, ey4, h6⟩ := bindS hS4
   refine RW.cutq (σ := Bool) (fun y4 => [(0, .str x0), (1, .int .i64 x1), (7, .int .i64 s2.1), (8, .int .i64 s2.2.1), (9, .int .i64 s2.2.2), (25, .bool y4)]) (fun y4 => []) (fun y => y4 = y) (fun _ _ _ _ g h => RW.gh g h) ?_ ?_
   ·refine RW.reg ?_
    refine rl.run 3 rfl ?_
    refine rl.gen rfl rfl fun b hb => ?_
    cases b
    ·have h7 := iteBF ey4 hb
     refine rl.run 6 rfl (rl.done ?_)
     cases h7
     exact ⟨_, rfl, (Gh.ren0 [] .nil rfl (.cons rfl (.dat .str) (.cons rfl (.dat .int) (.cons rfl (.dat .int) (.cons rfl (.dat .int) (.cons rfl (.dat .int) (.cons rfl (.dat .bool) .nil)))))))⟩
    ·have h8 := iteBT ey4 hb
     refine rl.run 4 rfl ?_
     refine rl.gen rfl rfl fun b hb => ?_
     cases b
     ·have h9 := iteBF h8 hb
      refine rl.run 1 rfl (rl.done ?_)
      cases h9
      exact ⟨_, rfl, (Gh.ren0 [] .nil rfl (.cons rfl (.dat .str) (.cons rfl (.dat .int) (.cons rfl (.dat .int) (.cons rfl (.dat .int) (.cons rfl (.dat .int) (.cons rfl (.dat .bool) .nil)))))))⟩
     ·have h10 := iteBT h8 hb
      refine rl.run 1 rfl (rl.done ?_)
      cases h10
      exact ⟨_, rfl, (Gh.ren0 [] .nil rfl (.cons rfl (.dat .str) (.cons rfl (.dat .int) (.cons rfl (.dat .int) (.cons rfl (.dat .int) (.cons rfl (.dat .int) (.cons rfl (.dat .bool) .nil)))))))⟩
   ·intro y hC
    subst hC
    cases hb : y4
    ·have h11 := iteBF h6 hb
     refine RW.cond_f rfl (RW.exit (blkA_eq ?_))
     cases h11
     exact ⟨_, (hE4 _ rfl).symm, (Gh.ren0 [] .nil rfl .nil)⟩
    ·have h12 := iteBT h6 hb
     refine RW.cond_t rfl (RW.skip (RW.seq (RW.blk (RW.sreg (rl.run 3 rfl ?_)))))
     obtain ⟨v5, e5, h13⟩ := bindS h12
     refine rl.op (x_idx rfl rfl e5) ?_
     refine rl.run 6 rfl (rl.done (RW.sreg (rl.run 3 rfl (rl.done ?_))))
     refine RW.keep [0, 1, 7, 8, 9] (a' := [(0, .str x0), (1, .int .i64 x1), (7, .int .i64 (w64 (s2.1 + (w64 ((Int.tmod (w64 (v5.toNat : Int)) 128) * s2.2.1))))), (8, .int .i64 (w64 (s2.2.1 * 128))), (9, .int .i64 s2.2.2)]) (H' := []) rfl rfl ?_
     refine RW.sreg (rl.run 2 rfl ?_)
     obtain ⟨v6, e6, h14⟩ := bindS h13
     refine rl.op (x_idx rfl rfl e6) ?_
     refine rl.gen rfl rfl fun b hb => ?_
     cases b
     ·have h15 := iteBF h14 hb
      refine rl.done (RW.cond_f rfl (RW.skip (RW.reg (rl.run 3 rfl (rl.done ?_)))))
      cases h15
      exact hB4 _ rfl _ _ (Gh.ren0 [] .nil rfl (.cons rfl (.dat .str) (.cons rfl (.dat .int) (.cons rfl (.dat .int) (.cons rfl (.dat .int) (.cons rfl (.dat .int) .nil))))))
     ·have h16 := iteBT h14 hb
      refine rl.done (RW.cond_t rfl (RW.seq (RW.seq ?_)))
      obtain ⟨y7, ey7, h17⟩ := bindS h16
      refine RW.cutq (σ := Bool) (fun y7 => [(7, .int .i64 (w64 (s2.1 + (w64 ((Int.tmod (w64 (v5.toNat : Int)) 128) * s2.2.1))))), (9, .int .i64 s2.2.2), (54, .bool y7)]) (fun y7 => []) (fun y => y7 = y) (fun _ _ _ _ g h => RW.gh g h) ?_ ?_
      ·refine RW.drw ?_
       refine rdraw.op rfl rfl ?_
       refine rdraw.gen rfl rfl fun b hb => ?_
       cases b
       ·have h18 := iteBF ey7 hb
        refine rdraw.op rfl rfl (rdraw.op rfl rfl ?_)
        obtain ⟨v8, e8, h19⟩ := bindS h18
        refine rdraw.call rfl rfl rfl (CallW.val (r' := .str v8) ok_spec_l01Var (law_spec_l01Var e8) (.cons .int .nil) .refl ⟨rfl, ?_⟩)
        refine rdraw.op rfl rfl (rdraw.op rfl rfl (rdraw.op rfl rfl (rdraw.op rfl rfl ?_)))
        obtain ⟨v9, e9, h20⟩ := bindS h19
        refine rdraw.op rfl (x_sls rfl rfl rfl abnd_both e9) ?_
        refine rdraw.gen rfl rfl fun b hb => ?_
        cases b
        ·have h21 := iteBF h20 hb
         refine rdraw.op rfl rfl (rdraw.done ?_)
         cases h21
         exact ⟨_, rfl, (Gh.ren0 [] .nil rfl (.cons rfl (.dat .int) (.cons rfl (.dat .int) (.cons rfl (.dat .bool) .nil))))⟩
        ·have h22 := iteBT h20 hb
         refine rdraw.op rfl rfl (rdraw.done ?_)
         cases h22
         exact ⟨_, rfl, (Gh.ren0 [] .nil rfl (.cons rfl (.dat .int) (.cons rfl (.dat .int) (.cons rfl (.dat .bool) .nil))))⟩
       ·have h23 := iteBT ey7 hb
        refine rdraw.op rfl rfl (rdraw.off rfl (rdraw.off rfl (rdraw.off rfl (rdraw.off rfl (rdraw.off rfl (rdraw.off rfl (rdraw.off rfl (rdraw.off rfl (rdraw.op rfl rfl (rdraw.done ?_))))))))))
        cases h23
        exact ⟨_, rfl, (Gh.ren0 [] .nil rfl (.cons rfl (.dat .int) (.cons rfl (.dat .int) (.cons rfl (.dat .bool) .nil))))⟩
      ·intro y hC
       subst hC
       cases hb : y7
       ·have h24 := iteBF h17 hb
        refine RW.cond_f rfl (RW.skip (RW.sreg (rl.run 6 rfl (rl.done (RW.ret ?_)))))
        cases h24
        have h25 := elimL h5 (hE4 _ rfl)
        cases h25
        exact RRet.mk rfl (OutT.tup (.cons .int (.cons .int (.cons .bool .nil)))) (by first | decide | simp)
       ·have h26 := iteBT h17 hb
        refine RW.cond_t rfl (RW.sreg (rl.run 3 rfl (rl.done (RW.ret ?_))))
        cases h26
        have h27 := elimL h5 (hE4 _ rfl)
        cases h27
        exact RRet.mk rfl (OutT.tup (.cons .int (.cons .int (.cons .bool .nil)))) (by first | decide | simp)
  ·intro y3 hC
   have h5 := elimR h5 hC
   refine RW.sreg (rl.run 3 rfl (rl.done (RW.ret ?_)))
   cases h5
   exact RRet.mk rfl (OutT.tup (.cons .int (.cons .int (.cons .bool .nil)))) (by first | decide | simp)
theorem law_spec_ReadShort {x0 : List UInt8} {x1 : Int} {r : (List UInt8) × Int × Bool} (hF : F_spec_ReadShort x0 x1 = some r) : PCalls Try.prog 148 [.str x0, .int .i64 x1] (.tup [.str r.1, .int .i64 r.2.1, .bool r.2.2]) := by
 refine PCalls.of_r k_spec_ReadShort rfl ?_
 unfold F_spec_ReadShort at hF
 refine RW.sreg (rl.run 3 rfl (rl.done (RW.sreg (rl.run 2 rfl ?_))))
 obtain ⟨v1, e1, h1⟩ := bindS hF
 refine rl.call rfl rfl rfl (CallW.val (r' := .tup [.int .i64 v1.1, .int .i64 v1.2.1, .bool v1.2.2]) ok_spec_ReadVar (law_spec_ReadVar e1) (.cons .str (.cons .int .nil)) (FlL.tup (.cons .refl (.cons .refl (.cons .refl .nil)))) ?_)
 refine rl.run 7 rfl (rl.done ?_)
 refine RW.keep [0, 7, 8, 9] (a' := [(0, .str x0), (7, .int .i64 v1.1), (8, .int .i64 v1.2.1), (9, .bool v1.2.2)]) (H' := []) rfl rfl ?_
 refine RW.seq (RW.seq ?_)
 obtain ⟨y2, ey2, h2⟩ := bindS h1
 refine RW.cutq (σ := Bool) (fun y2 => [(0, .str x0), (7, .int .i64 v1.1), (8, .int .i64 v1.2.1), (30, .bool y2)]) (fun y2 => []) (fun y => y2 = y) (fun _ _ _ _ g h => RW.gh g h) ?_ ?_
 ·refine RW.reg ?_
  refine rl.run 3 rfl ?_
  cases hb : (!v1.2.2)
  ·have h3 := iteBF ey2 hb
   refine rl.run 1 rfl ?_
   refine rl.gen rfl rfl fun b hb => ?_
   cases b
   ·have h4 := iteBF h3 hb
    refine rl.run 7 rfl ?_
    refine rl.gen rfl rfl fun b hb => ?_
    cases b
    ·have h5 := iteBF h4 hb
     refine rl.run 1 rfl (rl.done ?_)
     cases h5
     exact ⟨_, rfl, (Gh.ren0 [] .nil rfl (.cons rfl (.dat .str) (.cons rfl (.dat .int) (.cons rfl (.dat .int) (.cons rfl (.dat .bool) .nil)))))⟩
    ·have h6 := iteBT h4 hb
     refine rl.run 1 rfl (rl.done ?_)
     cases h6
     exact ⟨_, rfl, (Gh.ren0 [] .nil rfl (.cons rfl (.dat .str) (.cons rfl (.dat .int) (.cons rfl (.dat .int) (.cons rfl (.dat .bool) .nil)))))⟩
   ·have h7 := iteBT h3 hb
    refine rl.run 9 rfl (rl.done ?_)
    cases h7
    exact ⟨_, rfl, (Gh.ren0 [] .nil rfl (.cons rfl (.dat .str) (.cons rfl (.dat .int) (.cons rfl (.dat .int) (.cons rfl (.dat .bool) .nil)))))⟩
  ·have h8 := iteBT ey2 hb
   refine rl.run 11 rfl (rl.done ?_)
   cases h8
   exact ⟨_, rfl, (Gh.ren0 [] .nil rfl (.cons rfl (.dat .str) (.cons rfl (.dat .int) (.cons rfl (.dat .int) (.cons rfl (.dat .bool) .nil)))))⟩
 ·intro y hC
  subst hC
  cases hb : y2
  ·have h9 := iteBF h2 hb
   refine RW.cond_f rfl (RW.skip (RW.sreg (rl.run 5 rfl ?_)))
   obtain ⟨v3, e3, h10⟩ := bindS h9
   refine rl.op (x_sls rfl rfl rfl abnd_both e3) ?_
   refine rl.run 6 rfl (rl.done ?_)
   refine RW.keep [4, 5, 6] (a' := [(4, .str v3), (5, .int .i64 (w64 (v1.2.1 + v1.1))), (6, .bool true)]) (H' := []) rfl rfl ?_
   refine RW.ret ?_
   cases h10
   exact RRet.mk rfl (OutT.tup (.cons .str (.cons .int (.cons .bool .nil)))) (by first | decide | simp)
  ·have h11 := iteBT h2 hb
   refine RW.cond_t rfl (RW.sreg (rl.run 3 rfl (rl.done (RW.ret ?_))))
   cases h11
   exact RRet.mk rfl (OutT.tup (.cons .str (.cons .int (.cons .bool .nil)))) (by first | decide | simp)
theorem law_spec_l02Four {x0 : Int} {r : List UInt8} (hF : F_spec_l02Four x0 = some r) : PCalls Try.prog 197 [.int .u32 x0] (.str r) := by
 refine PCalls.of_r k_spec_l02Four rfl ?_
 unfold F_spec_l02Four at hF
 refine RW.sreg (rl.run 1 rfl (rl.done (RW.sreg (rl.run 12 rfl ?_))))
 refine rl.op (x_cvb_sl (o := true) (l := [IntKind.u8.wrap (shrv .u32 x0 24), IntKind.u8.wrap (shrv .u32 x0 16), IntKind.u8.wrap (shrv .u32 x0 8), IntKind.u8.wrap x0]) rfl rfl) ?_
 refine rl.run 1 rfl (rl.done ?_)
 refine RW.keep [2] (a' := [(2, .str ([IntKind.u8.wrap (shrv .u32 x0 24), IntKind.u8.wrap (shrv .u32 x0 16), IntKind.u8.wrap (shrv .u32 x0 8), IntKind.u8.wrap x0].map ofI))]) (H' := [some ⟨fl (encB true) [IntKind.u8.wrap (shrv .u32 x0 24), IntKind.u8.wrap (shrv .u32 x0 16), IntKind.u8.wrap (shrv .u32 x0 8), IntKind.u8.wrap x0], 1⟩]) rfl rfl ?_
 refine RW.ret ?_
 cases hF
 exact RRet.mk rfl .str (by first | decide | simp)
theorem law_spec_SumMore {x0 : Int} {x1 : List UInt8} {r : Int} (hF : F_spec_SumMore x0 x1 = some r) : PCalls Try.prog 214 [.int .u32 x0, .str x1] (.int .u32 r) := by
 refine PCalls.of_r k_spec_SumMore rfl ?_
 unfold F_spec_SumMore at hF
 refine RW.sreg (rl.run 1 rfl (rl.done (RW.seq (RW.sreg (rl.run 1 rfl (rl.done ?_))))))
 obtain ⟨y7, ey7, h2⟩ := bindS hF
 refine RW.cutq (σ := Int) (fun y2 => [(0, .int .u32 y2)]) (fun y2 => []) (fun y => y7 = y) (fun _ _ _ _ g h => RW.gh g h) ?_ ?_
 ·refine RW.blk ?_
  refine RW.iter (σ := Int × Int) ey7 (fun s1 => [(0, .int .u32 s1.1), (1, .str x1), (5, .int .i64 s1.2)]) (fun s1 => []) (Gh.ren0 [] .nil rfl (.cons rfl (.dat .int) (.cons rfl (.dat .str) (.cons rfl (.dat .int) .nil)))) (fun s1 B o hS1 hB1 hE1 => ?_)
  unfold S_spec_SumMore_1 at hS1
  refine RW.seq (RW.sreg (rl.run 3 rfl ?_))
  refine rl.gen rfl rfl fun b hb => ?_
  cases b
  ·have h3 := iteBF hS1 hb
   refine rl.done (RW.cond_f rfl (RW.exit (blkA_eq ?_)))
   cases h3
   exact ⟨_, (hE1 _ rfl).symm, (Gh.ren0 [] .nil rfl (.cons rfl (.dat .int) .nil))⟩
  ·have h4 := iteBT hS1 hb
   refine rl.done (RW.cond_t rfl (RW.skip (RW.seq (RW.blk (RW.sreg (rl.run 3 rfl ?_))))))
   obtain ⟨v3, e3, h5⟩ := bindS h4
   refine rl.op (x_idx rfl rfl e3) ?_
   refine rl.run 3 rfl (rl.done (RW.sreg (rl.run 1 rfl (rl.done ?_))))
   obtain ⟨y6, ey6, h7⟩ := bindS h5
   refine RW.cutq (σ := Int) (fun y5 => [(0, .int .u32 y5), (1, .str x1), (5, .int .i64 s1.2)]) (fun y5 => []) (fun y => y6 = y) (fun _ _ _ _ g h => RW.gh g h) ?_ ?_
   ·refine RW.blk ?_
    refine RW.iter (σ := Int × Int) ey6 (fun s4 => [(0, .int .u32 s4.1), (1, .str x1), (5, .int .i64 s1.2), (6, .int .i64 s4.2)]) (fun s4 => []) (Gh.ren0 [] .nil rfl (.cons rfl (.dat .int) (.cons rfl (.dat .str) (.cons rfl (.dat .int) (.cons rfl (.dat .int) .nil))))) (fun s4 B o hS6 hB6 hE6 => ?_)
    unfold S_spec_SumMore_2 at hS6
    refine RW.seq (RW.sreg (rl.run 1 rfl ?_))
    refine rl.gen rfl rfl fun b hb => ?_
    cases b
    ·have h8 := iteBF hS6 hb
     refine rl.done (RW.cond_f rfl (RW.exit (blkA_eq ?_)))
     cases h8
     exact ⟨_, (hE6 _ rfl).symm, (Gh.ren0 [] .nil rfl (.cons rfl (.dat .int) (.cons rfl (.dat .str) (.cons rfl (.dat .int) .nil))))⟩
    ·have h9 := iteBT hS6 hb
     refine rl.done (RW.cond_t rfl (RW.skip (RW.seq (RW.blk (RW.sreg (rl.run 2 rfl ?_))))))
     refine rl.gen rfl rfl fun b hb => ?_
     cases b
     ·have h10 := iteBF h9 hb
      refine rl.run 1 rfl (rl.done (RW.sreg (rl.run 3 rfl (rl.done (RW.sreg (rl.run 1 rfl (rl.done (RW.cond_f rfl (RW.skip (RW.reg (rl.run 3 rfl ?_)))))))))))
      refine rl.done ?_
      cases h10
      exact hB6 _ rfl _ _ (Gh.ren0 [] .nil rfl (.cons rfl (.dat .int) (.cons rfl (.dat .str) (.cons rfl (.dat .int) (.cons rfl (.dat .int) .nil)))))
     ·have h11 := iteBT h9 hb
      refine rl.run 1 rfl (rl.done (RW.sreg (rl.run 3 rfl (rl.done (RW.sreg (rl.run 1 rfl (rl.done (RW.cond_t rfl (RW.reg (rl.run 3 rfl (rl.done ?_)))))))))))
      refine RW.reg (rl.run 3 rfl (rl.done ?_))
      cases h11
      exact hB6 _ rfl _ _ (Gh.ren0 [] .nil rfl (.cons rfl (.dat .int) (.cons rfl (.dat .str) (.cons rfl (.dat .int) (.cons rfl (.dat .int) .nil)))))
   ·intro y5 hC
    subst hC
    refine RW.reg (rl.run 3 rfl (rl.done ?_))
    cases h7
    exact hB1 _ rfl _ _ (Gh.ren0 [] .nil rfl (.cons rfl (.dat .int) (.cons rfl (.dat .str) (.cons rfl (.dat .int) .nil))))
 ·intro y2 hC
  subst hC
  refine RW.sreg (rl.run 2 rfl (rl.done (RW.ret ?_)))
  cases h2
  exact RRet.mk rfl .int (by first | decide | simp)
theorem law_spec_SumOf {x0 : List UInt8} {r : Int} (hF : F_spec_SumOf x0 = some r) : PCalls Try.prog 198 [.str x0] (.int .u32 r) := by
 refine PCalls.of_r k_spec_SumOf rfl ?_
 unfold F_spec_SumOf at hF
 refine RW.sreg (rl.run 1 rfl (rl.done (RW.sreg (rl.run 1 rfl ?_))))
 obtain ⟨v1, e1, h1⟩ := bindS hF
 refine rl.call rfl rfl rfl (CallW.val (r' := .int .u32 v1) ok_spec_SumMore (law_spec_SumMore e1) (.cons .int (.cons .str .nil)) .refl ?_)
 refine rl.run 1 rfl (rl.done (RW.ret ?_))
 cases h1
 exact RRet.mk rfl .int (by first | decide | simp)
theorem law_spec_Sealed {x0 : List UInt8} {r : (List UInt8) × Bool} (hF : F_spec_Sealed x0 = some r) : PCalls Try.prog 159 [.str x0] (.tup [.str r.1, .bool r.2]) := by
 refine PCalls.of_r k_spec_Sealed rfl ?_
 unfold F_spec_Sealed at hF
 refine RW.sreg (rl.run 2 rfl (rl.done (RW.seq (RW.sreg (rl.run 2 rfl ?_)))))
 refine rl.gen rfl rfl fun b hb => ?_
 cases b
 ·have h1 := iteBF hF hb
  refine rl.done (RW.cond_f rfl (RW.skip (RW.sreg (rl.run 2 rfl ?_))))
  obtain ⟨v1, e1, h2⟩ := bindS h1
  refine rl.call rfl rfl rfl (CallW.val (r' := .int .u32 v1) ok_spec_SumOf (law_spec_SumOf e1) (.cons .str .nil) .refl ?_)
  obtain ⟨v2, e2, h3⟩ := bindS h2
  refine rl.call rfl rfl rfl (CallW.val (r' := .str v2) ok_spec_l02Four (law_spec_l02Four e2) (.cons .int .nil) .refl ?_)
  obtain ⟨v3, e3, h4⟩ := bindS h3
  refine rl.op (x_cat rfl rfl e3) ?_
  refine rl.run 2 rfl (rl.done (RW.ret ?_))
  cases h4
  exact RRet.mk rfl (OutT.tup (.cons .str (.cons .bool .nil))) (by first | decide | simp)
 ·have h5 := iteBT hF hb
  refine rl.done (RW.cond_t rfl (RW.sreg (rl.run 2 rfl (rl.done (RW.ret ?_)))))
  cases h5
  exact RRet.mk rfl (OutT.tup (.cons .str (.cons .bool .nil))) (by first | decide | simp)
theorem law_spec_FrameOk {x0 : TFrame} {r : Bool} (hF : F_spec_FrameOk x0 = some r) : PCalls Try.prog 208 [.agg (enc_TFrame false x0)] (.bool r) := by
 refine PCalls.of_r k_spec_FrameOk rfl ?_
 unfold F_spec_FrameOk at hF
 refine RW.sreg (rl.run 2 rfl (rl.done (RW.seq ?_)))
 obtain ⟨y1, ey1, h1⟩ := bindS hF
 refine RW.cutq (σ := Bool) (fun y1 => [(2, .bool y1)]) (fun y1 => []) (fun y => y1 = y) (fun _ _ _ _ g h => RW.gh g h) ?_ ?_
 ·refine RW.reg ?_
  refine rl.run 2 rfl ?_
  obtain ⟨v2, e2, h2⟩ := bindS ey1
  refine rl.call rfl rfl rfl (CallW.val (r' := .bool v2) ok_spec_l01In (law_spec_l01In e2) (.cons .int (.cons .int (.cons .int .nil))) .refl ?_)
  cases hb : v2
  ·have h3 := iteBF h2 hb
   refine rl.run 12 rfl (rl.done ?_)
   cases h3
   exact ⟨_, rfl, (Gh.ren0 [] .nil rfl (.cons rfl (.dat .bool) .nil))⟩
  ·have h4 := iteBT h2 hb
   refine rl.run 3 rfl ?_
   obtain ⟨v3, e3, h5⟩ := bindS h4
   refine rl.call rfl rfl rfl (CallW.val (r' := .bool v3) ok_spec_l01In (law_spec_l01In e3) (.cons .int (.cons .int (.cons .int .nil))) .refl ?_)
   cases hb : v3
   ·have h6 := iteBF h5 hb
    refine rl.run 8 rfl (rl.done ?_)
    cases h6
    exact ⟨_, rfl, (Gh.ren0 [] .nil rfl (.cons rfl (.dat .bool) .nil))⟩
   ·have h7 := iteBT h5 hb
    refine rl.run 5 rfl ?_
    obtain ⟨v4, e4, h8⟩ := bindS h7
    refine rl.call rfl rfl rfl (CallW.val (r' := .bool v4) ok_spec_l01In (law_spec_l01In e4) (.cons .int (.cons .int (.cons .int .nil))) .refl ?_)
    refine rl.run 2 rfl (rl.done ?_)
    cases h8
    exact ⟨_, rfl, (Gh.ren0 [] .nil rfl (.cons rfl (.dat .bool) .nil))⟩
 ·intro y hC
  subst hC
  refine RW.ret ?_
  cases h1
  exact RRet.mk rfl .bool (by first | decide | simp)
theorem law_spec_FrameText {x0 : TFrame} {r : (List UInt8) × Bool} (hF : F_spec_FrameText x0 = some r) : PCalls Try.prog 211 [.agg (enc_TFrame false x0)] (.tup [.str r.1, .bool r.2]) := by
 refine PCalls.of_r k_spec_FrameText rfl ?_
 unfold F_spec_FrameText at hF
 refine RW.sreg (rl.run 3 rfl (rl.done (RW.seq (RW.sreg (rl.run 1 rfl ?_)))))
 obtain ⟨v1, e1, h1⟩ := bindS hF
 refine rl.call rfl rfl rfl (CallW.val (r' := .bool v1) ok_spec_FrameOk (law_spec_FrameOk e1) (.cons (DFL.agg (.cons .int (.cons .int (.cons .str .nil)))) .nil) .refl ?_)
 cases hb : v1
 ·have h2 := iteBF h1 hb
  refine rl.run 1 rfl (rl.done (RW.cond_t rfl (RW.sreg (rl.run 2 rfl (rl.done (RW.ret ?_))))))
  cases h2
  exact RRet.mk rfl (OutT.tup (.cons .str (.cons .bool .nil))) (by first | decide | simp)
 ·have h3 := iteBT h1 hb
  refine rl.run 1 rfl (rl.done (RW.cond_f rfl (RW.skip (RW.sdrw (rdraw.op rfl rfl (rdraw.op rfl rfl ?_))))))
  obtain ⟨v2, e2, h4⟩ := bindS h3
  refine rdraw.call rfl rfl rfl (CallW.val (r' := .str v2) ok_spec_l01Var (law_spec_l01Var e2) (.cons .int .nil) .refl ⟨rfl, ?_⟩)
  refine rdraw.op rfl rfl (rdraw.op rfl rfl ?_)
  obtain ⟨v3, e3, h5⟩ := bindS h4
  refine rdraw.call rfl rfl rfl (CallW.val (r' := .str v3) ok_spec_l01Var (law_spec_l01Var e3) (.cons .int .nil) .refl ⟨rfl, ?_⟩)
  obtain ⟨v4, e4, h6⟩ := bindS h5
  refine rdraw.op rfl (x_cat rfl rfl e4) ?_
  refine rdraw.op rfl rfl (rdraw.op rfl rfl (rdraw.op rfl rfl ?_))
  obtain ⟨v5, e5, h7⟩ := bindS h6
  refine rdraw.call rfl rfl rfl (CallW.val (r' := .str v5) ok_spec_l01Var (law_spec_l01Var e5) (.cons .int .nil) .refl ⟨rfl, ?_⟩)
  obtain ⟨v6, e6, h8⟩ := bindS h7
  refine rdraw.op rfl (x_cat rfl rfl e6) ?_
  refine rdraw.op rfl rfl (rdraw.op rfl rfl ?_)
  obtain ⟨v7, e7, h9⟩ := bindS h8
  refine rdraw.op rfl (x_cat rfl rfl e7) ?_
  obtain ⟨v8, e8, h10⟩ := bindS h9
  refine rdraw.call rfl rfl rfl (CallW.val (r' := .tup [.str v8.1, .bool v8.2]) ok_spec_Sealed (law_spec_Sealed e8) (.cons .str .nil) (FlL.tup (.cons .refl (.cons .refl .nil))) ⟨rfl, ?_⟩)
  refine rdraw.op rfl rfl (rdraw.op rfl rfl (rdraw.op rfl rfl (rdraw.op rfl rfl (rdraw.done ?_))))
  refine RW.keep [2, 3] (a' := [(2, .str v8.1), (3, .bool v8.2)]) (H' := [some ⟨[.int .i64 x0.Gen, .int .i64 x0.Seq, .str x0.Body], 0⟩]) rfl rfl ?_
  refine RW.ret ?_
  cases h10
  exact RRet.mk rfl (OutT.tup (.cons .str (.cons .bool .nil))) (by first | decide | simp)
theorem law_spec_ReadFrame {x0 : List UInt8} {x1 : Int} {r : TFrame × Int × Bool} (hF : F_spec_ReadFrame x0 x1 = some r) : PCalls Try.prog 206 [.str x0, .int .i64 x1] (.tup [.agg (enc_TFrame true r.1), .int .i64 r.2.1, .bool r.2.2]) := by
 refine PCalls.of_r k_spec_ReadFrame rfl ?_
 unfold F_spec_ReadFrame at hF
 refine RW.sreg (rl.run 3 rfl (rl.done (RW.sreg (rl.run 2 rfl ?_))))
 obtain ⟨v1, e1, h1⟩ := bindS hF
 refine rl.call rfl rfl rfl (CallW.val (r' := .tup [.int .i64 v1.1, .int .i64 v1.2.1, .bool v1.2.2]) ok_spec_ReadVar (law_spec_ReadVar e1) (.cons .str (.cons .int .nil)) (FlL.tup (.cons .refl (.cons .refl (.cons .refl .nil)))) ?_)
 refine rl.run 7 rfl (rl.done (RW.sreg (rl.run 2 rfl ?_)))
 obtain ⟨v2, e2, h2⟩ := bindS h1
 refine rl.call rfl rfl rfl (CallW.val (r' := .tup [.int .i64 v2.1, .int .i64 v2.2.1, .bool v2.2.2]) ok_spec_ReadVar (law_spec_ReadVar e2) (.cons .str (.cons .int .nil)) (FlL.tup (.cons .refl (.cons .refl (.cons .refl .nil)))) ?_)
 refine rl.run 7 rfl (rl.done ?_)
 refine RW.keep [0, 1, 4, 7, 9, 10, 11, 12] (a' := [(0, .str x0), (1, .int .i64 x1), (4, .ptr 0 0), (7, .int .i64 v1.1), (9, .bool v1.2.2), (10, .int .i64 v2.1), (11, .int .i64 v2.2.1), (12, .bool v2.2.2)]) (H' := [some ⟨[.int .i64 0, .int .i64 0, .str []], 0⟩]) rfl rfl ?_
 refine RW.sreg (rl.run 2 rfl ?_)
 obtain ⟨v3, e3, h3⟩ := bindS h2
 refine rl.call rfl rfl rfl (CallW.val (r' := .tup [.str v3.1, .int .i64 v3.2.1, .bool v3.2.2]) ok_spec_ReadShort (law_spec_ReadShort e3) (.cons .str (.cons .int .nil)) (FlL.tup (.cons .refl (.cons .refl (.cons .refl .nil)))) ?_)
 refine rl.run 7 rfl (rl.done (RW.sreg (rl.run 6 rfl (rl.done ?_))))
 refine RW.keep [0, 1, 4, 9, 12, 14, 15, 16] (a' := [(0, .str x0), (1, .int .i64 x1), (4, .ptr 0 0), (9, .bool v1.2.2), (12, .bool v2.2.2), (14, .int .i64 v3.2.1), (15, .bool v3.2.2), (16, .ptr 1 0)]) (H' := [some ⟨[.int .i64 0, .int .i64 0, .str []], 0⟩, some ⟨[.int .i64 v1.1, .int .i64 v2.1, .str v3.1], 0⟩]) rfl rfl ?_
 refine RW.seq (RW.seq ?_)
 obtain ⟨y4, ey4, h4⟩ := bindS h3
 refine RW.cutq (σ := Bool) (fun y4 => [(0, .str x0), (1, .int .i64 x1), (4, .ptr 0 0), (14, .int .i64 v3.2.1), (16, .ptr 1 0), (64, .bool y4)]) (fun y4 => [some ⟨[.int .i64 0, .int .i64 0, .str []], 0⟩, some ⟨[.int .i64 v1.1, .int .i64 v2.1, .str v3.1], 0⟩]) (fun y => y4 = y) (fun _ _ _ _ g h => RW.gh g h) ?_ ?_
 ·refine RW.reg ?_
  refine rl.run 3 rfl ?_
  cases hb : (!v1.2.2)
  ·have h5 := iteBF ey4 hb
   refine rl.run 4 rfl ?_
   cases hb : (!v2.2.2)
   ·have h6 := iteBF h5 hb
    refine rl.run 4 rfl ?_
    cases hb : (!v3.2.2)
    ·have h7 := iteBF h6 hb
     refine rl.run 4 rfl ?_
     refine rl.gen rfl rfl fun b hb => ?_
     cases b
     ·have h8 := iteBF h7 hb
      refine rl.run 3 rfl ?_
      refine rl.gen rfl rfl fun b hb => ?_
      cases b
      ·have h9 := iteBF h8 hb
       refine rl.run 1 rfl (rl.done ?_)
       cases h9
       exact ⟨_, rfl, (Gh.ren0 [0, 1] (.cells rfl rfl (.keep .int (.keep .int (.keep .str .nil))) (.cells rfl rfl (.keep .int (.keep .int (.keep .str .nil))) .nil)) rfl (.cons rfl (.dat .str) (.cons rfl (.dat .int) (.cons rfl (.ptr rfl) (.cons rfl (.dat .int) (.cons rfl (.ptr rfl) (.cons rfl (.dat .bool) .nil)))))))⟩
      ·have h10 := iteBT h8 hb
       refine rl.run 1 rfl (rl.done ?_)
       cases h10
       exact ⟨_, rfl, (Gh.ren0 [0, 1] (.cells rfl rfl (.keep .int (.keep .int (.keep .str .nil))) (.cells rfl rfl (.keep .int (.keep .int (.keep .str .nil))) .nil)) rfl (.cons rfl (.dat .str) (.cons rfl (.dat .int) (.cons rfl (.ptr rfl) (.cons rfl (.dat .int) (.cons rfl (.ptr rfl) (.cons rfl (.dat .bool) .nil)))))))⟩
     ·have h11 := iteBT h7 hb
      refine rl.run 5 rfl (rl.done ?_)
      cases h11
      exact ⟨_, rfl, (Gh.ren0 [0, 1] (.cells rfl rfl (.keep .int (.keep .int (.keep .str .nil))) (.cells rfl rfl (.keep .int (.keep .int (.keep .str .nil))) .nil)) rfl (.cons rfl (.dat .str) (.cons rfl (.dat .int) (.cons rfl (.ptr rfl) (.cons rfl (.dat .int) (.cons rfl (.ptr rfl) (.cons rfl (.dat .bool) .nil)))))))⟩
    ·have h12 := iteBT h6 hb
     refine rl.run 10 rfl (rl.done ?_)
     cases h12
     exact ⟨_, rfl, (Gh.ren0 [0, 1] (.cells rfl rfl (.keep .int (.keep .int (.keep .str .nil))) (.cells rfl rfl (.keep .int (.keep .int (.keep .str .nil))) .nil)) rfl (.cons rfl (.dat .str) (.cons rfl (.dat .int) (.cons rfl (.ptr rfl) (.cons rfl (.dat .int) (.cons rfl (.ptr rfl) (.cons rfl (.dat .bool) .nil)))))))⟩
   ·have h13 := iteBT h5 hb
    refine rl.run 14 rfl (rl.done ?_)
    cases h13
    exact ⟨_, rfl, (Gh.ren0 [0, 1] (.cells rfl rfl (.keep .int (.keep .int (.keep .str .nil))) (.cells rfl rfl (.keep .int (.keep .int (.keep .str .nil))) .nil)) rfl (.cons rfl (.dat .str) (.cons rfl (.dat .int) (.cons rfl (.ptr rfl) (.cons rfl (.dat .int) (.cons rfl (.ptr rfl) (.cons rfl (.dat .bool) .nil)))))))⟩
  ·have h14 := iteBT ey4 hb
   refine rl.run 18 rfl (rl.done ?_)
   cases h14
   exact ⟨_, rfl, (Gh.ren0 [0, 1] (.cells rfl rfl (.keep .int (.keep .int (.keep .str .nil))) (.cells rfl rfl (.keep .int (.keep .int (.keep .str .nil))) .nil)) rfl (.cons rfl (.dat .str) (.cons rfl (.dat .int) (.cons rfl (.ptr rfl) (.cons rfl (.dat .int) (.cons rfl (.ptr rfl) (.cons rfl (.dat .bool) .nil)))))))⟩
 ·intro y hC
  subst hC
  cases hb : y4
  ·have h15 := iteBF h4 hb
   refine RW.cond_f rfl (RW.skip (RW.sreg (rl.run 1 rfl ?_)))
   obtain ⟨v5, e5, h16⟩ := bindS h15
   refine rl.call rfl rfl rfl (CallW.val (r' := .tup [.str v5.1, .bool v5.2]) ok_spec_FrameText (law_spec_FrameText e5) (.cons (DFL.agg (.cons .int (.cons .int (.cons .str .nil)))) .nil) (FlL.tup (.cons .refl (.cons .refl .nil))) ?_)
   refine rl.run 5 rfl (rl.done (RW.seq (RW.seq ?_)))
   obtain ⟨y6, ey6, h17⟩ := bindS h16
   refine RW.cutq (σ := Bool) (fun y6 => [(4, .ptr 0 0), (14, .int .i64 v3.2.1), (16, .ptr 1 0), (81, .bool y6)]) (fun y6 => [some ⟨[.int .i64 0, .int .i64 0, .str []], 0⟩, some ⟨[.int .i64 v1.1, .int .i64 v2.1, .str v3.1], 0⟩]) (fun y => y6 = y) (fun _ _ _ _ g h => RW.gh g h) ?_ ?_
   ·refine RW.reg ?_
    refine rl.run 3 rfl ?_
    cases hb : (!v5.2)
    ·have h18 := iteBF ey6 hb
     refine rl.run 5 rfl ?_
     obtain ⟨v7, e7, h19⟩ := bindS h18
     refine rl.gop rfl (x_sls rfl rfl rfl abnd_both e7) ?_
     refine rl.gen rfl rfl fun b hb => ?_
     cases b
     ·have h20 := iteBF h19 hb
      refine rl.run 1 rfl (rl.done ?_)
      cases h20
      exact ⟨_, rfl, (Gh.ren0 [0, 1] (.cells rfl rfl (.keep .int (.keep .int (.keep .str .nil))) (.cells rfl rfl (.keep .int (.keep .int (.keep .str .nil))) .nil)) rfl (.cons rfl (.ptr rfl) (.cons rfl (.dat .int) (.cons rfl (.ptr rfl) (.cons rfl (.dat .bool) .nil)))))⟩
     ·have h21 := iteBT h19 hb
      refine rl.run 1 rfl (rl.done ?_)
      cases h21
      exact ⟨_, rfl, (Gh.ren0 [0, 1] (.cells rfl rfl (.keep .int (.keep .int (.keep .str .nil))) (.cells rfl rfl (.keep .int (.keep .int (.keep .str .nil))) .nil)) rfl (.cons rfl (.ptr rfl) (.cons rfl (.dat .int) (.cons rfl (.ptr rfl) (.cons rfl (.dat .bool) .nil)))))⟩
    ·have h22 := iteBT ey6 hb
     refine rl.run 8 rfl (rl.done ?_)
     cases h22
     exact ⟨_, rfl, (Gh.ren0 [0, 1] (.cells rfl rfl (.keep .int (.keep .int (.keep .str .nil))) (.cells rfl rfl (.keep .int (.keep .int (.keep .str .nil))) .nil)) rfl (.cons rfl (.ptr rfl) (.cons rfl (.dat .int) (.cons rfl (.ptr rfl) (.cons rfl (.dat .bool) .nil)))))⟩
   ·intro y hC
    subst hC
    cases hb : y6
    ·have h23 := iteBF h17 hb
     refine RW.cond_f rfl (RW.skip (RW.sreg (rl.run 6 rfl (rl.done (RW.ret ?_)))))
     cases h23
     exact RRet.mk rfl (OutT.tup (.cons (OutL.agg (.cons .int rfl (.cons .int rfl (.cons .str rfl .nil)))) (.cons .int (.cons .bool .nil)))) (by first | decide | simp)
    ·have h24 := iteBT h17 hb
     refine RW.cond_t rfl (RW.sreg (rl.run 4 rfl (rl.done (RW.ret ?_))))
     cases h24
     exact RRet.mk rfl (OutT.tup (.cons (OutL.agg (.cons .int rfl (.cons .int rfl (.cons .str rfl .nil)))) (.cons .int (.cons .bool .nil)))) (by first | decide | simp)
  ·have h25 := iteBT h4 hb
   refine RW.cond_t rfl (RW.sreg (rl.run 4 rfl (rl.done (RW.ret ?_))))
   cases h25
   exact RRet.mk rfl (OutT.tup (.cons (OutL.agg (.cons .int rfl (.cons .int rfl (.cons .str rfl .nil)))) (.cons .int (.cons .bool .nil)))) (by first | decide | simp)
theorem law_spec_SegGen {x0 : TDisk} {x1 : Int} {r : Int} (hF : F_spec_SegGen x0 x1 = some r) : PCalls Try.prog 174 [.agg (enc_TDisk false x0), .int .i64 x1] (.int .i64 r) := by
 refine PCalls.of_r k_spec_SegGen rfl ?_
 unfold F_spec_SegGen at hF
 refine RW.sreg (rl.run 2 rfl (rl.done (RW.sreg (rl.run 2 rfl ?_))))
 obtain ⟨v1, e1, h1⟩ := bindS hF
 refine rl.call rfl rfl rfl (CallW.val (r' := .str v1) ok_spec_SegText (law_spec_SegText e1) (.cons (DFL.agg (.cons (.lst ekS) (.cons (.lst ek_TWrite) .nil))) (.cons .int .nil)) .refl ?_)
 obtain ⟨v2, e2, h2⟩ := bindS h1
 refine rl.call rfl rfl rfl (CallW.val (r' := .tup [.agg (enc_TFrame false v2.1), .int .i64 v2.2.1, .bool v2.2.2]) ok_spec_ReadFrame (law_spec_ReadFrame e2) (.cons .str (.cons .int .nil)) (FlL.tup (.cons .refl (.cons .refl (.cons .refl .nil)))) ?_)
 refine rl.run 8 rfl (rl.done ?_)
 refine RW.keep [5, 7] (a' := [(5, .ptr 1 0), (7, .bool v2.2.2)]) (H' := [some ⟨[.lst false 1 (fl (encS false) x0.Sectors) x0.Sectors.length, .lst false 2 (fl (enc_TWrite false) x0.Cache) x0.Cache.length], 0⟩, some ⟨[.int .i64 v2.1.Gen, .int .i64 v2.1.Seq, .str v2.1.Body], 0⟩]) rfl rfl ?_
 refine RW.seq (RW.seq ?_)
 obtain ⟨y3, ey3, h3⟩ := bindS h2
 refine RW.cutq (σ := Bool) (fun y3 => [(5, .ptr 0 0), (22, .bool y3)]) (fun y3 => [some ⟨[.int .i64 v2.1.Gen, .int .i64 v2.1.Seq, .str v2.1.Body], 0⟩]) (fun y => y3 = y) (fun _ _ _ _ g h => RW.gh g h) ?_ ?_
 ·refine RW.reg ?_
  refine rl.run 3 rfl ?_
  cases hb : (!v2.2.2)
  ·have h4 := iteBF ey3 hb
   refine rl.run 2 rfl ?_
   refine rl.gen rfl rfl fun b hb => ?_
   cases b
   ·have h5 := iteBF h4 hb
    refine rl.run 1 rfl (rl.done ?_)
    cases h5
    exact ⟨_, rfl, (Gh.ren0 [1] (.cells rfl rfl (.keep .int (.keep .int (.keep .str .nil))) .nil) rfl (.cons rfl (.ptr rfl) (.cons rfl (.dat .bool) .nil)))⟩
   ·have h6 := iteBT h4 hb
    refine rl.run 1 rfl (rl.done ?_)
    cases h6
    exact ⟨_, rfl, (Gh.ren0 [1] (.cells rfl rfl (.keep .int (.keep .int (.keep .str .nil))) .nil) rfl (.cons rfl (.ptr rfl) (.cons rfl (.dat .bool) .nil)))⟩
  ·have h7 := iteBT ey3 hb
   refine rl.run 4 rfl (rl.done ?_)
   cases h7
   exact ⟨_, rfl, (Gh.ren0 [1] (.cells rfl rfl (.keep .int (.keep .int (.keep .str .nil))) .nil) rfl (.cons rfl (.ptr rfl) (.cons rfl (.dat .bool) .nil)))⟩
 ·intro y hC
  subst hC
  cases hb : y3
  ·have h8 := iteBF h3 hb
   refine RW.cond_f rfl (RW.skip (RW.sreg (rl.run 3 rfl (rl.done (RW.ret ?_)))))
   cases h8
   exact RRet.mk rfl .int (by first | decide | simp)
  ·have h9 := iteBT h3 hb
   refine RW.cond_t rfl (RW.sreg (rl.run 1 rfl (rl.done (RW.ret ?_))))
   cases h9
   exact RRet.mk rfl .int (by first | decide | simp)
theorem law_spec_ScanFrames {x0 : List UInt8} {x1 : Int} {r : (List TFrame) × Int} (hF : F_spec_ScanFrames x0 x1 = some r) : PCalls Try.prog 204 [.str x0, .int .i64 x1] (.tup [.lst true 3 (fl (enc_TFrame true) r.1) r.1.length, .int .i64 r.2]) := by
 refine PCalls.of_r k_spec_ScanFrames rfl ?_
 unfold F_spec_ScanFrames at hF
 refine RW.sreg (rl.run 2 rfl (rl.done (RW.sreg (rl.run 2 rfl (rl.done (RW.sreg (rl.run 1 rfl (rl.done ?_))))))))
 refine RW.gh (Gh.nil_t 6 3 rfl) ?_
 obtain ⟨y6, ey6, h2⟩ := bindS hF
 refine RW.cutE (fun y2 => []) (fun y2 => []) (fun y => y6 = .inr y) ?_ ?_
 ·refine RW.blk ?_
  refine RW.iter (σ := Int × (List TFrame)) ey6 (fun s1 => [(0, .str x0), (1, .int .i64 x1), (6, .sl 0 0 s1.2.length), (7, .int .i64 s1.1)]) (fun s1 => [some ⟨fl (enc_TFrame true) s1.2, 3⟩]) (Gh.ren0 [0] (.same rfl (ek_TFrame.fref _ _) .nil) rfl (.cons rfl (.dat .str) (.cons rfl (.dat .int) (.cons rfl (.slq rfl rfl) (.cons rfl (.dat .int) .nil))))) (fun s1 B o hS1 hB1 hE1 => ?_)
  unfold S_spec_ScanFrames_1 at hS1
  refine RW.blk (RW.sreg (rl.run 2 rfl ?_))
  obtain ⟨v3, e3, h3⟩ := bindS hS1
  refine rl.call rfl rfl rfl (CallW.val (r' := .tup [.agg (enc_TFrame false v3.1), .int .i64 v3.2.1, .bool v3.2.2]) ok_spec_ReadFrame (law_spec_ReadFrame e3) (.cons .str (.cons .int .nil)) (FlL.tup (.cons .refl (.cons .refl (.cons .refl .nil)))) ?_)
  refine rl.run 8 rfl (rl.done (RW.seq (RW.seq ?_)))
  obtain ⟨y4, ey4, h4⟩ := bindS h3
  refine RW.cutq (σ := Bool) (fun y4 => [(0, .str x0), (1, .int .i64 x1), (6, .sl 0 0 s1.2.length), (7, .int .i64 s1.1), (8, .ptr 1 0), (9, .int .i64 v3.2.1), (26, .bool y4)]) (fun y4 => [some ⟨fl (enc_TFrame true) s1.2, 3⟩, some ⟨[.int .i64 v3.1.Gen, .int .i64 v3.1.Seq, .str v3.1.Body], 0⟩]) (fun y => y4 = y) (fun _ _ _ _ g h => RW.gh g h) ?_ ?_
  ·refine RW.reg ?_
   refine rl.run 3 rfl ?_
   cases hb : (!v3.2.2)
   ·have h5 := iteBF ey4 hb
    refine rl.run 3 rfl ?_
    refine rl.gen rfl rfl fun b hb => ?_
    cases b
    ·have h6 := iteBF h5 hb
     refine rl.run 1 rfl (rl.done ?_)
     cases h6
     exact ⟨_, rfl, (Gh.ren0 [0, 1] (.same rfl (ek_TFrame.fref _ _) (.cells rfl rfl (.keep .int (.keep .int (.keep .str .nil))) .nil)) rfl (.cons rfl (.dat .str) (.cons rfl (.dat .int) (.cons rfl (.slq rfl rfl) (.cons rfl (.dat .int) (.cons rfl (.ptr rfl) (.cons rfl (.dat .int) (.cons rfl (.dat .bool) .nil))))))))⟩
    ·have h7 := iteBT h5 hb
     refine rl.run 1 rfl (rl.done ?_)
     cases h7
     exact ⟨_, rfl, (Gh.ren0 [0, 1] (.same rfl (ek_TFrame.fref _ _) (.cells rfl rfl (.keep .int (.keep .int (.keep .str .nil))) .nil)) rfl (.cons rfl (.dat .str) (.cons rfl (.dat .int) (.cons rfl (.slq rfl rfl) (.cons rfl (.dat .int) (.cons rfl (.ptr rfl) (.cons rfl (.dat .int) (.cons rfl (.dat .bool) .nil))))))))⟩
   ·have h8 := iteBT ey4 hb
    refine rl.run 5 rfl (rl.done ?_)
    cases h8
    exact ⟨_, rfl, (Gh.ren0 [0, 1] (.same rfl (ek_TFrame.fref _ _) (.cells rfl rfl (.keep .int (.keep .int (.keep .str .nil))) .nil)) rfl (.cons rfl (.dat .str) (.cons rfl (.dat .int) (.cons rfl (.slq rfl rfl) (.cons rfl (.dat .int) (.cons rfl (.ptr rfl) (.cons rfl (.dat .int) (.cons rfl (.dat .bool) .nil))))))))⟩
  ·intro y hC
   subst hC
   cases hb : y4
   ·have h9 := iteBF h4 hb
    refine RW.cond_f rfl (RW.skip (RW.sreg (rl.run 3 rfl ?_)))
    obtain ⟨v5, e5, h10⟩ := bindS h9
    refine rl.op (x_app rfl rfl (rapp_sl (l := s1.2) (m := [v3.1]) (o := true) ek_TFrame rfl rfl (acont_slq (m := [v3.1]) (o := true) fk_TFrame rfl rfl) rfl (fk_TFrame.fst _ _) e5)) ?_
    refine rl.run 1 rfl (rl.done (RW.reg (rl.run 2 rfl (rl.done ?_))))
    cases h10
    exact hB1 _ rfl _ _ (Gh.ren0 [3] (.same rfl (ek_TFrame.fref _ _) .nil) rfl (.cons rfl (.dat .str) (.cons rfl (.dat .int) (.cons rfl (.slq rfl rfl) (.cons rfl (.dat .int) .nil)))))
   ·have h11 := iteBT h4 hb
    refine RW.cond_t rfl (RW.sreg (rl.run 4 rfl (rl.done (RW.ret ?_))))
    cases h11
    have h12 := elimL h2 (hE1 _ rfl)
    cases h12
    exact RRet.mk rfl (OutT.tup (.cons (OutR.ownq ek_TFrame rfl rfl) (.cons .int .nil))) (by first | decide | simp)
 ·exact fun y => y.elim
theorem law_spec_SegFrames {x0 : TDisk} {x1 : Int} {r : (List TFrame) × Int} (hF : F_spec_SegFrames x0 x1 = some r) : PCalls Try.prog 173 [.agg (enc_TDisk false x0), .int .i64 x1] (.tup [.lst true 3 (fl (enc_TFrame true) r.1) r.1.length, .int .i64 r.2]) := by
 refine PCalls.of_r k_spec_SegFrames rfl ?_
 unfold F_spec_SegFrames at hF
 refine RW.sreg (rl.run 3 rfl (rl.done (RW.sreg (rl.run 2 rfl ?_))))
 obtain ⟨v1, e1, h1⟩ := bindS hF
 refine rl.call rfl rfl rfl (CallW.val (r' := .int .i64 v1) ok_spec_SegGen (law_spec_SegGen e1) (.cons (DFL.agg (.cons (.lst ekS) (.cons (.lst ek_TWrite) .nil))) (.cons .int .nil)) .refl ?_)
 refine rl.run 1 rfl (rl.done (RW.seq (RW.sreg (rl.run 1 rfl ?_))))
 refine rl.gen rfl rfl fun b hb => ?_
 cases b
 ·have h2 := iteBF h1 hb
  refine rl.done (RW.cond_f rfl (RW.skip (RW.sreg (rl.run 2 rfl ?_))))
  obtain ⟨v2, e2, h3⟩ := bindS h2
  refine rl.call rfl rfl rfl (CallW.val (r' := .str v2) ok_spec_SegText (law_spec_SegText e2) (.cons (DFL.agg (.cons (.lst ekS) (.cons (.lst ek_TWrite) .nil))) (.cons .int .nil)) .refl ?_)
  refine rl.run 1 rfl ?_
  obtain ⟨v3, e3, h4⟩ := bindS h3
  refine rl.call rfl rfl rfl (CallW.val (r' := .tup [.lst false 3 (fl (enc_TFrame false) v3.1) v3.1.length, .int .i64 v3.2]) ok_spec_ScanFrames (law_spec_ScanFrames e3) (.cons .str (.cons .int .nil)) (FlL.tup (.cons (ek_TFrame.fflag _).lst (.cons .refl .nil))) ?_)
  refine rl.run 5 rfl (rl.done ?_)
  refine RW.keep [7, 8] (a' := [(7, .lst false 3 (fl (enc_TFrame false) v3.1) v3.1.length), (8, .int .i64 v3.2)]) (H' := [some ⟨[.lst false 1 (fl (encS false) x0.Sectors) x0.Sectors.length, .lst false 2 (fl (enc_TWrite false) x0.Cache) x0.Cache.length], 0⟩]) rfl rfl ?_
  refine RW.sreg (rl.run 2 rfl ?_)
  obtain ⟨v4, e4, h5⟩ := bindS h4
  refine rl.op (x_sle ek_TFrame rfl rfl rfl abnd_lo e4) ?_
  obtain ⟨v5, e5, h6⟩ := bindS h5
  refine rl.op (x_app rfl rfl (rapp_nil (m := v4) (o := true) ek_TFrame acont_lst rfl (fk_TFrame.fst _ _) e5)) ?_
  refine rl.run 3 rfl (rl.done (RW.ret ?_))
  cases h6
  exact RRet.mk rfl (OutT.tup (.cons (OutR.ownq ek_TFrame rfl rfl) (.cons .int .nil))) (by first | decide | simp)
 ·have h7 := iteBT h1 hb
  refine rl.done (RW.cond_t rfl (RW.sreg (rl.run 3 rfl (rl.done (RW.ret ?_)))))
  cases h7
  exact RRet.mk rfl (OutT.tup (.cons (OutR.nil (enc := enc_TFrame)) (.cons .int .nil))) (by first | decide | simp)
theorem law_spec_l06Var_w {x0 : TL06Cur} {r : Int × TL06Cur} (hF : F_spec_l06Var_w x0 = some r) : ACalls Try.prog 0 150 [.ptr 0 0] [some ⟨[.str x0.mText, .int .i64 x0.mAt, .bool x0.mBad], 0⟩] (.int .i64 r.1) [some ⟨[.str r.2.mText, .int .i64 r.2.mAt, .bool r.2.mBad], 0⟩] := by
 refine ACalls.of_s k_spec_l06Var rfl ?_
 unfold F_spec_l06Var_w at hF
 refine RW.sreg (rl.run 1 rfl (rl.done (RW.sdrw (rdraw.op rfl rfl (rdraw.op rfl rfl (rdraw.op rfl rfl (rdraw.op rfl rfl (rdraw.op rfl rfl (rdraw.op rfl rfl (rdraw.op rfl rfl (rdraw.op rfl rfl ?_)))))))))))
 obtain ⟨v1, e1, h1⟩ := bindS hF
 refine rdraw.call rfl rfl rfl (CallW.val (r' := .tup [.int .i64 v1.1, .int .i64 v1.2.1, .bool v1.2.2]) ok_spec_ReadVar (law_spec_ReadVar e1) (.cons .str (.cons .int .nil)) (FlL.tup (.cons .refl (.cons .refl (.cons .refl .nil)))) ⟨rfl, ?_⟩)
 refine rdraw.op rfl rfl (rdraw.op rfl rfl (rdraw.op rfl rfl (rdraw.op rfl rfl (rdraw.op rfl rfl (rdraw.op rfl rfl (rdraw.op rfl rfl (rdraw.done ?_)))))))
 refine RW.keep [0, 3, 4, 5] (a' := [(0, .ptr 0 0), (3, .int .i64 v1.1), (4, .int .i64 v1.2.1), (5, .bool v1.2.2)]) (H' := [some ⟨[.str x0.mText, .int .i64 x0.mAt, .bool x0.mBad], 0⟩]) rfl rfl ?_
 refine RW.seq (RW.sreg (rl.run 5 rfl ?_))
 cases hb : x0.mBad
 ·have h2 := iteBF h1 hb
  refine rl.run 3 rfl (rl.done ?_)
  cases hb : (!v1.2.2)
  ·have h3 := iteBF h2 hb
   refine RW.cond_f rfl (RW.skip (RW.sreg (rl.run 5 rfl (rl.done ?_))))
   refine RW.keep [3] (a' := [(3, .int .i64 v1.1)]) (H' := [some ⟨[.str x0.mText, .int .i64 v1.2.1, .bool false], 0⟩]) rfl rfl ?_
   refine RW.sreg (rl.run 2 rfl (rl.done (RW.ret ?_)))
   cases h3
   exact RRetS.mk rfl .int (Gh.renN [0] (.cells rfl rfl (.keep .str (.keep .int (.keep .bool .nil))) .nil) rfl rfl rfl .nil)
  ·have h4 := iteBT h2 hb
   refine RW.cond_t rfl (RW.sreg (rl.run 4 rfl (rl.done ?_)))
   refine RW.keep [] (a' := []) (H' := [some ⟨[.str x0.mText, .int .i64 x0.mAt, .bool true], 0⟩]) rfl rfl ?_
   refine RW.sreg (rl.run 1 rfl (rl.done (RW.ret ?_)))
   cases h4
   exact RRetS.mk rfl .int (Gh.renN [0] (.cells rfl rfl (.keep .str (.keep .int (.keep .bool .nil))) .nil) rfl rfl rfl .nil)
 ·have h5 := iteBT h1 hb
  refine rl.run 3 rfl (rl.done (RW.cond_t rfl (RW.sreg (rl.run 4 rfl (rl.done ?_)))))
  refine RW.keep [] (a' := []) (H' := [some ⟨[.str x0.mText, .int .i64 x0.mAt, .bool true], 0⟩]) rfl rfl ?_
  refine RW.sreg (rl.run 1 rfl (rl.done (RW.ret ?_)))
  cases h5
  exact RRetS.mk rfl .int (Gh.renN [0] (.cells rfl rfl (.keep .str (.keep .int (.keep .bool .nil))) .nil) rfl rfl rfl .nil)
theorem law_spec_WordOk {x0 : List UInt8} {r : Bool} (hF : F_spec_WordOk x0 = some r) : PCalls Try.prog 189 [.str x0] (.bool r) := by
 refine PCalls.of_r k_spec_WordOk rfl ?_
 unfold F_spec_WordOk at hF
 refine RW.sreg (rl.run 1 rfl (rl.done (RW.seq (RW.sreg (rl.run 1 rfl (rl.done ?_))))))
 obtain ⟨y6, ey6, h2⟩ := bindS hF
 refine RW.cutq (σ := Unit) (fun y2 => [(0, .str x0)]) (fun y2 => []) (fun y => y6 = .inr y) (fun _ _ _ _ g h => RW.gh g h) ?_ ?_
 ·refine RW.blk ?_
  refine RW.iter (σ := Int) ey6 (fun s1 => [(0, .str x0), (3, .int .i64 s1)]) (fun s1 => []) (Gh.ren0 [] .nil rfl (.cons rfl (.dat .str) (.cons rfl (.dat .int) .nil))) (fun s1 B o hS1 hB1 hE1 => ?_)
  unfold S_spec_WordOk_1 at hS1
  refine RW.seq (RW.sreg (rl.run 3 rfl ?_))
  refine rl.gen rfl rfl fun b hb => ?_
  cases b
  ·have h3 := iteBF hS1 hb
   refine rl.done (RW.cond_f rfl (RW.exit (blkA_eq ?_)))
   cases h3
   exact ⟨_, (hE1 _ rfl).symm, (Gh.ren0 [] .nil rfl (.cons rfl (.dat .str) .nil))⟩
  ·have h4 := iteBT hS1 hb
   refine rl.done (RW.cond_t rfl (RW.skip (RW.seq (RW.blk (RW.seq ?_)))))
   obtain ⟨y3, ey3, h5⟩ := bindS h4
   refine RW.cutq (σ := Bool) (fun y3 => [(0, .str x0), (3, .int .i64 s1), (19, .bool y3)]) (fun y3 => []) (fun y => y3 = y) (fun _ _ _ _ g h => RW.gh g h) ?_ ?_
   ·refine RW.reg ?_
    refine rl.run 2 rfl ?_
    obtain ⟨v4, e4, h6⟩ := bindS ey3
    refine rl.op (x_idx rfl rfl e4) ?_
    refine rl.gen rfl rfl fun b hb => ?_
    cases b
    ·have h7 := iteBF h6 hb
     refine rl.run 3 rfl ?_
     obtain ⟨v5, e5, h8⟩ := bindS h7
     refine rl.gop rfl (x_idx rfl rfl e5) ?_
     refine rl.gen rfl rfl fun b hb => ?_
     cases b
     ·have h9 := iteBF h8 hb
      refine rl.run 1 rfl (rl.done ?_)
      cases h9
      exact ⟨_, rfl, (Gh.ren0 [] .nil rfl (.cons rfl (.dat .str) (.cons rfl (.dat .int) (.cons rfl (.dat .bool) .nil))))⟩
     ·have h10 := iteBT h8 hb
      refine rl.run 1 rfl (rl.done ?_)
      cases h10
      exact ⟨_, rfl, (Gh.ren0 [] .nil rfl (.cons rfl (.dat .str) (.cons rfl (.dat .int) (.cons rfl (.dat .bool) .nil))))⟩
    ·have h11 := iteBT h6 hb
     refine rl.run 6 rfl (rl.done ?_)
     cases h11
     exact ⟨_, rfl, (Gh.ren0 [] .nil rfl (.cons rfl (.dat .str) (.cons rfl (.dat .int) (.cons rfl (.dat .bool) .nil))))⟩
   ·intro y hC
    subst hC
    cases hb : y3
    ·have h12 := iteBF h5 hb
     refine RW.cond_f rfl (RW.skip (RW.reg (rl.run 3 rfl (rl.done ?_))))
     cases h12
     exact hB1 _ rfl _ _ (Gh.ren0 [] .nil rfl (.cons rfl (.dat .str) (.cons rfl (.dat .int) .nil)))
    ·have h13 := iteBT h5 hb
     refine RW.cond_t rfl (RW.sreg (rl.run 1 rfl (rl.done (RW.ret ?_))))
     cases h13
     have h14 := elimL h2 (hE1 _ rfl)
     cases h14
     exact RRet.mk rfl .bool (by first | decide | simp)
 ·intro y2 hC
  have h2 := elimR h2 hC
  refine RW.sreg (rl.run 2 rfl ?_)
  obtain ⟨v7, e7, h15⟩ := bindS h2
  refine rl.call rfl rfl rfl (CallW.val (r' := .bool v7) ok_spec_l01In (law_spec_l01In e7) (.cons .int (.cons .int (.cons .int .nil))) .refl ?_)
  refine rl.run 1 rfl (rl.done (RW.ret ?_))
  cases h15
  exact RRet.mk rfl .bool (by first | decide | simp)
set_option maxHeartbeats 2000000 in
theorem law_spec_RecOk {x0 : TRec} {r : Bool} (hF : F_spec_RecOk x0 = some r) : PCalls Try.prog 124 [.agg (enc_TRec false x0)] (.bool r) := by
 refine PCalls.of_r k_spec_RecOk rfl ?_
 unfold F_spec_RecOk at hF
 refine RW.sreg (rl.run 2 rfl (rl.done (RW.seq (RW.seq ?_))))
 obtain ⟨y1, ey1, h1⟩ := bindS hF
 refine RW.cutq (σ := Bool) (fun y1 => [(1, .ptr 0 0), (15, .bool y1)]) (fun y1 => [some ⟨[.int .i64 x0.Kind, .int .i64 x0.Valid, .int .i64 x0.Uid, .int .i64 x0.Next, .int .i64 x0.Flags, .str x0.User, .str x0.Name, .str x0.Text], 0⟩]) (fun y => y1 = y) (fun _ _ _ _ g h => RW.gh g h) ?_ ?_
 ·refine RW.reg ?_
  refine rl.run 2 rfl ?_
  obtain ⟨v2, e2, h2⟩ := bindS ey1
  refine rl.call rfl rfl rfl (CallW.val (r' := .bool v2) ok_spec_l01In (law_spec_l01In e2) (.cons .int (.cons .int (.cons .int .nil))) .refl ?_)
  cases hb : v2
  ·have h3 := iteBF h2 hb
   refine rl.run 7 rfl (rl.done ?_)
   cases h3
   exact ⟨_, rfl, (Gh.ren0 [0] (.cells rfl rfl (.keep .int (.keep .int (.keep .int (.keep .int (.keep .int (.keep .str (.keep .str (.keep .str .nil)))))))) .nil) rfl (.cons rfl (.ptr rfl) (.cons rfl (.dat .bool) .nil)))⟩
  ·have h4 := iteBT h2 hb
   refine rl.run 4 rfl ?_
   obtain ⟨v3, e3, h5⟩ := bindS h4
   refine rl.call rfl rfl rfl (CallW.val (r' := .bool v3) ok_spec_l01In (law_spec_l01In e3) (.cons .int (.cons .int (.cons .int .nil))) .refl ?_)
   cases hb : v3
   ·have h6 := iteBF h5 hb
    refine rl.run 2 rfl (rl.done ?_)
    cases h6
    exact ⟨_, rfl, (Gh.ren0 [0] (.cells rfl rfl (.keep .int (.keep .int (.keep .int (.keep .int (.keep .int (.keep .str (.keep .str (.keep .str .nil)))))))) .nil) rfl (.cons rfl (.ptr rfl) (.cons rfl (.dat .bool) .nil)))⟩
   ·have h7 := iteBT h5 hb
    refine rl.run 2 rfl (rl.done ?_)
    cases h7
    exact ⟨_, rfl, (Gh.ren0 [0] (.cells rfl rfl (.keep .int (.keep .int (.keep .int (.keep .int (.keep .int (.keep .str (.keep .str (.keep .str .nil)))))))) .nil) rfl (.cons rfl (.ptr rfl) (.cons rfl (.dat .bool) .nil)))⟩
 ·intro y hC
  subst hC
  cases hb : y1
  ·have h8 := iteBF h1 hb
   refine RW.cond_f rfl (RW.skip (RW.sreg (rl.run 2 rfl ?_)))
   refine rl.gen rfl rfl fun b hb => ?_
   cases b
   ·have h9 := iteBF h8 hb
    refine rl.run 1 rfl (rl.done (RW.seq ?_))
    obtain ⟨y4, ey4, h10⟩ := bindS h9
    refine RW.cutq (σ := Bool) (fun y4 => [(1, .ptr 0 0), (3, .bool false), (4, .bool y4)]) (fun y4 => [some ⟨[.int .i64 x0.Kind, .int .i64 x0.Valid, .int .i64 x0.Uid, .int .i64 x0.Next, .int .i64 x0.Flags, .str x0.User, .str x0.Name, .str x0.Text], 0⟩]) (fun y => y4 = y) (fun _ _ _ _ g h => RW.gh g h) ?_ ?_
    ·refine RW.reg ?_
     refine rl.run 2 rfl ?_
     refine rl.gen rfl rfl fun b hb => ?_
     cases b
     ·have h11 := iteBF ey4 hb
      refine rl.run 3 rfl ?_
      refine rl.gen rfl rfl fun b hb => ?_
      cases b
      ·have h12 := iteBF h11 hb
       refine rl.run 4 rfl ?_
       refine rl.gen rfl rfl fun b hb => ?_
       cases b
       ·have h13 := iteBF h12 hb
        refine rl.run 2 rfl (rl.done ?_)
        cases h13
        exact ⟨_, rfl, (Gh.ren0 [0] (.cells rfl rfl (.keep .int (.keep .int (.keep .int (.keep .int (.keep .int (.keep .str (.keep .str (.keep .str .nil)))))))) .nil) rfl (.cons rfl (.ptr rfl) (.cons rfl (.dat .bool) (.cons rfl (.dat .bool) .nil))))⟩
       ·have h14 := iteBT h12 hb
        refine rl.run 2 rfl (rl.done ?_)
        cases h14
        exact ⟨_, rfl, (Gh.ren0 [0] (.cells rfl rfl (.keep .int (.keep .int (.keep .int (.keep .int (.keep .int (.keep .str (.keep .str (.keep .str .nil)))))))) .nil) rfl (.cons rfl (.ptr rfl) (.cons rfl (.dat .bool) (.cons rfl (.dat .bool) .nil))))⟩
      ·have h15 := iteBT h11 hb
       refine rl.run 7 rfl (rl.done ?_)
       cases h15
       exact ⟨_, rfl, (Gh.ren0 [0] (.cells rfl rfl (.keep .int (.keep .int (.keep .int (.keep .int (.keep .int (.keep .str (.keep .str (.keep .str .nil)))))))) .nil) rfl (.cons rfl (.ptr rfl) (.cons rfl (.dat .bool) (.cons rfl (.dat .bool) .nil))))⟩
     ·have h16 := iteBT ey4 hb
      refine rl.run 11 rfl (rl.done ?_)
      cases h16
      exact ⟨_, rfl, (Gh.ren0 [0] (.cells rfl rfl (.keep .int (.keep .int (.keep .int (.keep .int (.keep .int (.keep .str (.keep .str (.keep .str .nil)))))))) .nil) rfl (.cons rfl (.ptr rfl) (.cons rfl (.dat .bool) (.cons rfl (.dat .bool) .nil))))⟩
    ·intro y hC
     subst hC
     refine RW.seq ?_
     obtain ⟨y5, ey5, h17⟩ := bindS h10
     refine RW.cutq (σ := Bool) (fun y5 => [(1, .ptr 0 0), (3, .bool false), (4, .bool y4), (5, .bool y5)]) (fun y5 => [some ⟨[.int .i64 x0.Kind, .int .i64 x0.Valid, .int .i64 x0.Uid, .int .i64 x0.Next, .int .i64 x0.Flags, .str x0.User, .str x0.Name, .str x0.Text], 0⟩]) (fun y => y5 = y) (fun _ _ _ _ g h => RW.gh g h) ?_ ?_
     ·refine RW.reg ?_
      refine rl.run 2 rfl ?_
      refine rl.gen rfl rfl fun b hb => ?_
      cases b
      ·have h18 := iteBF ey5 hb
       refine rl.run 3 rfl ?_
       refine rl.gen rfl rfl fun b hb => ?_
       cases b
       ·have h19 := iteBF h18 hb
        refine rl.run 2 rfl (rl.done ?_)
        cases h19
        exact ⟨_, rfl, (Gh.ren0 [0] (.cells rfl rfl (.keep .int (.keep .int (.keep .int (.keep .int (.keep .int (.keep .str (.keep .str (.keep .str .nil)))))))) .nil) rfl (.cons rfl (.ptr rfl) (.cons rfl (.dat .bool) (.cons rfl (.dat .bool) (.cons rfl (.dat .bool) .nil)))))⟩
       ·have h20 := iteBT h18 hb
        refine rl.run 2 rfl (rl.done ?_)
        cases h20
        exact ⟨_, rfl, (Gh.ren0 [0] (.cells rfl rfl (.keep .int (.keep .int (.keep .int (.keep .int (.keep .int (.keep .str (.keep .str (.keep .str .nil)))))))) .nil) rfl (.cons rfl (.ptr rfl) (.cons rfl (.dat .bool) (.cons rfl (.dat .bool) (.cons rfl (.dat .bool) .nil)))))⟩
      ·have h21 := iteBT ey5 hb
       refine rl.run 6 rfl (rl.done ?_)
       cases h21
       exact ⟨_, rfl, (Gh.ren0 [0] (.cells rfl rfl (.keep .int (.keep .int (.keep .int (.keep .int (.keep .int (.keep .str (.keep .str (.keep .str .nil)))))))) .nil) rfl (.cons rfl (.ptr rfl) (.cons rfl (.dat .bool) (.cons rfl (.dat .bool) (.cons rfl (.dat .bool) .nil)))))⟩
     ·intro y hC
      subst hC
      refine RW.seq (RW.seq ?_)
      obtain ⟨y6, ey6, h22⟩ := bindS h17
      refine RW.cutq (σ := Bool) (fun y6 => [(1, .ptr 0 0), (4, .bool y4), (5, .bool y5), (77, .bool y6)]) (fun y6 => [some ⟨[.int .i64 x0.Kind, .int .i64 x0.Valid, .int .i64 x0.Uid, .int .i64 x0.Next, .int .i64 x0.Flags, .str x0.User, .str x0.Name, .str x0.Text], 0⟩]) (fun y => y6 = y) (fun _ _ _ _ g h => RW.gh g h) ?_ ?_
      ·refine RW.reg ?_
       refine rl.run 25 rfl ?_
       refine rl.gen rfl rfl fun b hb => ?_
       cases b
       ·have h23 := iteBF ey6 hb
        refine rl.run 3 rfl ?_
        refine rl.gen rfl rfl fun b hb => ?_
        cases b
        ·have h24 := iteBF h23 hb
         refine rl.run 4 rfl ?_
         refine rl.gen rfl rfl fun b hb => ?_
         cases b
         ·have h25 := iteBF h24 hb
          refine rl.run 3 rfl (rl.done ?_)
          cases h25
          exact ⟨_, rfl, (Gh.ren0 [0] (.cells rfl rfl (.keep .int (.keep .int (.keep .int (.keep .int (.keep .int (.keep .str (.keep .str (.keep .str .nil)))))))) .nil) rfl (.cons rfl (.ptr rfl) (.cons rfl (.dat .bool) (.cons rfl (.dat .bool) (.cons rfl (.dat .bool) .nil)))))⟩
         ·have h26 := iteBT h24 hb
          refine rl.run 3 rfl (rl.done ?_)
          cases h26
          exact ⟨_, rfl, (Gh.ren0 [0] (.cells rfl rfl (.keep .int (.keep .int (.keep .int (.keep .int (.keep .int (.keep .str (.keep .str (.keep .str .nil)))))))) .nil) rfl (.cons rfl (.ptr rfl) (.cons rfl (.dat .bool) (.cons rfl (.dat .bool) (.cons rfl (.dat .bool) .nil)))))⟩
        ·have h27 := iteBT h23 hb
         refine rl.run 8 rfl (rl.done ?_)
         cases h27
         exact ⟨_, rfl, (Gh.ren0 [0] (.cells rfl rfl (.keep .int (.keep .int (.keep .int (.keep .int (.keep .int (.keep .str (.keep .str (.keep .str .nil)))))))) .nil) rfl (.cons rfl (.ptr rfl) (.cons rfl (.dat .bool) (.cons rfl (.dat .bool) (.cons rfl (.dat .bool) .nil)))))⟩
       ·have h28 := iteBT ey6 hb
        refine rl.run 12 rfl (rl.done ?_)
        cases h28
        exact ⟨_, rfl, (Gh.ren0 [0] (.cells rfl rfl (.keep .int (.keep .int (.keep .int (.keep .int (.keep .int (.keep .str (.keep .str (.keep .str .nil)))))))) .nil) rfl (.cons rfl (.ptr rfl) (.cons rfl (.dat .bool) (.cons rfl (.dat .bool) (.cons rfl (.dat .bool) .nil)))))⟩
      ·intro y hC
       subst hC
       cases hb : y6
       ·have h29 := iteBF h22 hb
        refine RW.cond_f rfl (RW.skip (RW.seq (RW.seq ?_)))
        obtain ⟨y7, ey7, h30⟩ := bindS h29
        refine RW.cutq (σ := Bool) (fun y7 => [(1, .ptr 0 0), (5, .bool y5), (93, .bool y7)]) (fun y7 => [some ⟨[.int .i64 x0.Kind, .int .i64 x0.Valid, .int .i64 x0.Uid, .int .i64 x0.Next, .int .i64 x0.Flags, .str x0.User, .str x0.Name, .str x0.Text], 0⟩]) (fun y => y7 = y) (fun _ _ _ _ g h => RW.gh g h) ?_ ?_
        ·refine RW.reg ?_
         refine rl.run 2 rfl ?_
         cases hb : y4
         ·have h31 := iteBF ey7 hb
          refine rl.run 11 rfl ?_
          refine rl.gen rfl rfl fun b hb => ?_
          cases b
          ·have h32 := iteBF h31 hb
           refine rl.run 2 rfl (rl.done ?_)
           cases h32
           exact ⟨_, rfl, (Gh.ren0 [0] (.cells rfl rfl (.keep .int (.keep .int (.keep .int (.keep .int (.keep .int (.keep .str (.keep .str (.keep .str .nil)))))))) .nil) rfl (.cons rfl (.ptr rfl) (.cons rfl (.dat .bool) (.cons rfl (.dat .bool) .nil))))⟩
          ·have h33 := iteBT h31 hb
           refine rl.run 2 rfl (rl.done ?_)
           cases h33
           exact ⟨_, rfl, (Gh.ren0 [0] (.cells rfl rfl (.keep .int (.keep .int (.keep .int (.keep .int (.keep .int (.keep .str (.keep .str (.keep .str .nil)))))))) .nil) rfl (.cons rfl (.ptr rfl) (.cons rfl (.dat .bool) (.cons rfl (.dat .bool) .nil))))⟩
         ·have h34 := iteBT ey7 hb
          refine rl.run 2 rfl ?_
          obtain ⟨v8, e8, h35⟩ := bindS h34
          refine rl.call rfl rfl rfl (CallW.val (r' := .bool v8) ok_spec_l01In (law_spec_l01In e8) (.cons .int (.cons .int (.cons .int .nil))) .refl ?_)
          cases hb : v8
          ·have h36 := iteBF h35 hb
           refine rl.run 11 rfl (rl.done ?_)
           cases h36
           exact ⟨_, rfl, (Gh.ren0 [0] (.cells rfl rfl (.keep .int (.keep .int (.keep .int (.keep .int (.keep .int (.keep .str (.keep .str (.keep .str .nil)))))))) .nil) rfl (.cons rfl (.ptr rfl) (.cons rfl (.dat .bool) (.cons rfl (.dat .bool) .nil))))⟩
          ·have h37 := iteBT h35 hb
           refine rl.run 11 rfl (rl.done ?_)
           cases h37
           exact ⟨_, rfl, (Gh.ren0 [0] (.cells rfl rfl (.keep .int (.keep .int (.keep .int (.keep .int (.keep .int (.keep .str (.keep .str (.keep .str .nil)))))))) .nil) rfl (.cons rfl (.ptr rfl) (.cons rfl (.dat .bool) (.cons rfl (.dat .bool) .nil))))⟩
        ·intro y hC
         subst hC
         cases hb : y7
         ·have h38 := iteBF h30 hb
          refine RW.cond_f rfl (RW.skip (RW.seq (RW.seq ?_)))
          obtain ⟨y9, ey9, h39⟩ := bindS h38
          refine RW.cutq (σ := Bool) (fun y9 => [(1, .ptr 0 0), (109, .bool y9)]) (fun y9 => [some ⟨[.int .i64 x0.Kind, .int .i64 x0.Valid, .int .i64 x0.Uid, .int .i64 x0.Next, .int .i64 x0.Flags, .str x0.User, .str x0.Name, .str x0.Text], 0⟩]) (fun y => y9 = y) (fun _ _ _ _ g h => RW.gh g h) ?_ ?_
          ·refine RW.reg ?_
           refine rl.run 2 rfl ?_
           cases hb : y5
           ·have h40 := iteBF ey9 hb
            refine rl.run 11 rfl ?_
            refine rl.gen rfl rfl fun b hb => ?_
            cases b
            ·have h41 := iteBF h40 hb
             refine rl.run 2 rfl (rl.done ?_)
             cases h41
             exact ⟨_, rfl, (Gh.ren0 [0] (.cells rfl rfl (.keep .int (.keep .int (.keep .int (.keep .int (.keep .int (.keep .str (.keep .str (.keep .str .nil)))))))) .nil) rfl (.cons rfl (.ptr rfl) (.cons rfl (.dat .bool) .nil)))⟩
            ·have h42 := iteBT h40 hb
             refine rl.run 2 rfl (rl.done ?_)
             cases h42
             exact ⟨_, rfl, (Gh.ren0 [0] (.cells rfl rfl (.keep .int (.keep .int (.keep .int (.keep .int (.keep .int (.keep .str (.keep .str (.keep .str .nil)))))))) .nil) rfl (.cons rfl (.ptr rfl) (.cons rfl (.dat .bool) .nil)))⟩
           ·have h43 := iteBT ey9 hb
            refine rl.run 2 rfl ?_
            obtain ⟨v10, e10, h44⟩ := bindS h43
            refine rl.call rfl rfl rfl (CallW.val (r' := .bool v10) ok_spec_l01In (law_spec_l01In e10) (.cons .int (.cons .int (.cons .int .nil))) .refl ?_)
            cases hb : v10
            ·have h45 := iteBF h44 hb
             refine rl.run 11 rfl (rl.done ?_)
             cases h45
             exact ⟨_, rfl, (Gh.ren0 [0] (.cells rfl rfl (.keep .int (.keep .int (.keep .int (.keep .int (.keep .int (.keep .str (.keep .str (.keep .str .nil)))))))) .nil) rfl (.cons rfl (.ptr rfl) (.cons rfl (.dat .bool) .nil)))⟩
            ·have h46 := iteBT h44 hb
             refine rl.run 11 rfl (rl.done ?_)
             cases h46
             exact ⟨_, rfl, (Gh.ren0 [0] (.cells rfl rfl (.keep .int (.keep .int (.keep .int (.keep .int (.keep .int (.keep .str (.keep .str (.keep .str .nil)))))))) .nil) rfl (.cons rfl (.ptr rfl) (.cons rfl (.dat .bool) .nil)))⟩
          ·intro y hC
           subst hC
           cases hb : y9
           ·have h47 := iteBF h39 hb
            refine RW.cond_f rfl (RW.skip (RW.seq (RW.sreg (rl.run 2 rfl ?_))))
            refine rl.gen rfl rfl fun b hb => ?_
            cases b
            ·have h48 := iteBF h47 hb
             refine rl.done (RW.cond_f rfl (RW.skip (RW.sreg (rl.run 4 rfl (rl.done (RW.ret ?_))))))
             cases h48
             exact RRet.mk rfl .bool (by first | decide | simp)
            ·have h49 := iteBT h47 hb
             refine rl.done (RW.cond_t rfl (RW.sreg (rl.run 5 rfl (rl.done (RW.ret ?_)))))
             cases h49
             exact RRet.mk rfl .bool (by first | decide | simp)
           ·have h50 := iteBT h39 hb
            refine RW.cond_t rfl (RW.sreg (rl.run 1 rfl (rl.done (RW.ret ?_))))
            cases h50
            exact RRet.mk rfl .bool (by first | decide | simp)
         ·have h51 := iteBT h30 hb
          refine RW.cond_t rfl (RW.sreg (rl.run 1 rfl (rl.done (RW.ret ?_))))
          cases h51
          exact RRet.mk rfl .bool (by first | decide | simp)
       ·have h52 := iteBT h22 hb
        refine RW.cond_t rfl (RW.sreg (rl.run 1 rfl (rl.done (RW.ret ?_))))
        cases h52
        exact RRet.mk rfl .bool (by first | decide | simp)
   ·have h53 := iteBT h8 hb
    refine rl.run 1 rfl (rl.done (RW.seq ?_))
    obtain ⟨y11, ey11, h54⟩ := bindS h53
    refine RW.cutq (σ := Bool) (fun y11 => [(1, .ptr 0 0), (3, .bool true), (4, .bool y11)]) (fun y11 => [some ⟨[.int .i64 x0.Kind, .int .i64 x0.Valid, .int .i64 x0.Uid, .int .i64 x0.Next, .int .i64 x0.Flags, .str x0.User, .str x0.Name, .str x0.Text], 0⟩]) (fun y => y11 = y) (fun _ _ _ _ g h => RW.gh g h) ?_ ?_
    ·refine RW.reg ?_
     refine rl.run 2 rfl ?_
     refine rl.gen rfl rfl fun b hb => ?_
     cases b
     ·have h55 := iteBF ey11 hb
      refine rl.run 3 rfl ?_
      refine rl.gen rfl rfl fun b hb => ?_
      cases b
      ·have h56 := iteBF h55 hb
       refine rl.run 4 rfl ?_
       refine rl.gen rfl rfl fun b hb => ?_
       cases b
       ·have h57 := iteBF h56 hb
        refine rl.run 2 rfl (rl.done ?_)
        cases h57
        exact ⟨_, rfl, (Gh.ren0 [0] (.cells rfl rfl (.keep .int (.keep .int (.keep .int (.keep .int (.keep .int (.keep .str (.keep .str (.keep .str .nil)))))))) .nil) rfl (.cons rfl (.ptr rfl) (.cons rfl (.dat .bool) (.cons rfl (.dat .bool) .nil))))⟩
       ·have h58 := iteBT h56 hb
        refine rl.run 2 rfl (rl.done ?_)
        cases h58
        exact ⟨_, rfl, (Gh.ren0 [0] (.cells rfl rfl (.keep .int (.keep .int (.keep .int (.keep .int (.keep .int (.keep .str (.keep .str (.keep .str .nil)))))))) .nil) rfl (.cons rfl (.ptr rfl) (.cons rfl (.dat .bool) (.cons rfl (.dat .bool) .nil))))⟩
      ·have h59 := iteBT h55 hb
       refine rl.run 7 rfl (rl.done ?_)
       cases h59
       exact ⟨_, rfl, (Gh.ren0 [0] (.cells rfl rfl (.keep .int (.keep .int (.keep .int (.keep .int (.keep .int (.keep .str (.keep .str (.keep .str .nil)))))))) .nil) rfl (.cons rfl (.ptr rfl) (.cons rfl (.dat .bool) (.cons rfl (.dat .bool) .nil))))⟩
     ·have h60 := iteBT ey11 hb
      refine rl.run 11 rfl (rl.done ?_)
      cases h60
      exact ⟨_, rfl, (Gh.ren0 [0] (.cells rfl rfl (.keep .int (.keep .int (.keep .int (.keep .int (.keep .int (.keep .str (.keep .str (.keep .str .nil)))))))) .nil) rfl (.cons rfl (.ptr rfl) (.cons rfl (.dat .bool) (.cons rfl (.dat .bool) .nil))))⟩
    ·intro y hC
     subst hC
     refine RW.seq ?_
     obtain ⟨y12, ey12, h61⟩ := bindS h54
     refine RW.cutq (σ := Bool) (fun y12 => [(1, .ptr 0 0), (3, .bool true), (4, .bool y11), (5, .bool y12)]) (fun y12 => [some ⟨[.int .i64 x0.Kind, .int .i64 x0.Valid, .int .i64 x0.Uid, .int .i64 x0.Next, .int .i64 x0.Flags, .str x0.User, .str x0.Name, .str x0.Text], 0⟩]) (fun y => y12 = y) (fun _ _ _ _ g h => RW.gh g h) ?_ ?_
     ·refine RW.reg ?_
      refine rl.run 2 rfl ?_
      refine rl.gen rfl rfl fun b hb => ?_
      cases b
      ·have h62 := iteBF ey12 hb
       refine rl.run 3 rfl ?_
       refine rl.gen rfl rfl fun b hb => ?_
       cases b
       ·have h63 := iteBF h62 hb
        refine rl.run 2 rfl (rl.done ?_)
        cases h63
        exact ⟨_, rfl, (Gh.ren0 [0] (.cells rfl rfl (.keep .int (.keep .int (.keep .int (.keep .int (.keep .int (.keep .str (.keep .str (.keep .str .nil)))))))) .nil) rfl (.cons rfl (.ptr rfl) (.cons rfl (.dat .bool) (.cons rfl (.dat .bool) (.cons rfl (.dat .bool) .nil)))))⟩
       ·have h64 := iteBT h62 hb
        refine rl.run 2 rfl (rl.done ?_)
        cases h64
        exact ⟨_, rfl, (Gh.ren0 [0] (.cells rfl rfl (.keep .int (.keep .int (.keep .int (.keep .int (.keep .int (.keep .str (.keep .str (.keep .str .nil)))))))) .nil) rfl (.cons rfl (.ptr rfl) (.cons rfl (.dat .bool) (.cons rfl (.dat .bool) (.cons rfl (.dat .bool) .nil)))))⟩
      ·have h65 := iteBT ey12 hb
       refine rl.run 6 rfl (rl.done ?_)
       cases h65
       exact ⟨_, rfl, (Gh.ren0 [0] (.cells rfl rfl (.keep .int (.keep .int (.keep .int (.keep .int (.keep .int (.keep .str (.keep .str (.keep .str .nil)))))))) .nil) rfl (.cons rfl (.ptr rfl) (.cons rfl (.dat .bool) (.cons rfl (.dat .bool) (.cons rfl (.dat .bool) .nil)))))⟩
     ·intro y hC
      subst hC
      refine RW.seq (RW.seq ?_)
      obtain ⟨y13, ey13, h66⟩ := bindS h61
      refine RW.cutq (σ := Bool) (fun y13 => [(1, .ptr 0 0), (4, .bool y11), (5, .bool y12), (77, .bool y13)]) (fun y13 => [some ⟨[.int .i64 x0.Kind, .int .i64 x0.Valid, .int .i64 x0.Uid, .int .i64 x0.Next, .int .i64 x0.Flags, .str x0.User, .str x0.Name, .str x0.Text], 0⟩]) (fun y => y13 = y) (fun _ _ _ _ g h => RW.gh g h) ?_ ?_
      ·refine RW.reg ?_
       refine rl.run 4 rfl ?_
       obtain ⟨v14, e14, h67⟩ := bindS ey13
       refine rl.call rfl rfl rfl (CallW.val (r' := .bool v14) ok_spec_WordOk (law_spec_WordOk e14) (.cons .str .nil) .refl ?_)
       cases hb : v14
       ·have h68 := iteBF h67 hb
        refine rl.run 33 rfl (rl.done ?_)
        cases h68
        exact ⟨_, rfl, (Gh.ren0 [0] (.cells rfl rfl (.keep .int (.keep .int (.keep .int (.keep .int (.keep .int (.keep .str (.keep .str (.keep .str .nil)))))))) .nil) rfl (.cons rfl (.ptr rfl) (.cons rfl (.dat .bool) (.cons rfl (.dat .bool) (.cons rfl (.dat .bool) .nil)))))⟩
       ·have h69 := iteBT h67 hb
        refine rl.run 4 rfl ?_
        obtain ⟨v15, e15, h70⟩ := bindS h69
        refine rl.call rfl rfl rfl (CallW.val (r' := .bool v15) ok_spec_WordOk (law_spec_WordOk e15) (.cons .str .nil) .refl ?_)
        cases hb : v15
        ·have h71 := iteBF h70 hb
         refine rl.run 28 rfl (rl.done ?_)
         cases h71
         exact ⟨_, rfl, (Gh.ren0 [0] (.cells rfl rfl (.keep .int (.keep .int (.keep .int (.keep .int (.keep .int (.keep .str (.keep .str (.keep .str .nil)))))))) .nil) rfl (.cons rfl (.ptr rfl) (.cons rfl (.dat .bool) (.cons rfl (.dat .bool) (.cons rfl (.dat .bool) .nil)))))⟩
        ·have h72 := iteBT h70 hb
         refine rl.run 5 rfl ?_
         obtain ⟨v16, e16, h73⟩ := bindS h72
         refine rl.call rfl rfl rfl (CallW.val (r' := .bool v16) ok_spec_l01In (law_spec_l01In e16) (.cons .int (.cons .int (.cons .int .nil))) .refl ?_)
         cases hb : v16
         ·have h74 := iteBF h73 hb
          refine rl.run 22 rfl (rl.done ?_)
          cases h74
          exact ⟨_, rfl, (Gh.ren0 [0] (.cells rfl rfl (.keep .int (.keep .int (.keep .int (.keep .int (.keep .int (.keep .str (.keep .str (.keep .str .nil)))))))) .nil) rfl (.cons rfl (.ptr rfl) (.cons rfl (.dat .bool) (.cons rfl (.dat .bool) (.cons rfl (.dat .bool) .nil)))))⟩
         ·have h75 := iteBT h73 hb
          refine rl.run 22 rfl (rl.done ?_)
          cases h75
          exact ⟨_, rfl, (Gh.ren0 [0] (.cells rfl rfl (.keep .int (.keep .int (.keep .int (.keep .int (.keep .int (.keep .str (.keep .str (.keep .str .nil)))))))) .nil) rfl (.cons rfl (.ptr rfl) (.cons rfl (.dat .bool) (.cons rfl (.dat .bool) (.cons rfl (.dat .bool) .nil)))))⟩
      ·intro y hC
       subst hC
       cases hb : y13
       ·have h76 := iteBF h66 hb
        refine RW.cond_f rfl (RW.skip (RW.seq (RW.seq ?_)))
        obtain ⟨y17, ey17, h77⟩ := bindS h76
        refine RW.cutq (σ := Bool) (fun y17 => [(1, .ptr 0 0), (5, .bool y12), (93, .bool y17)]) (fun y17 => [some ⟨[.int .i64 x0.Kind, .int .i64 x0.Valid, .int .i64 x0.Uid, .int .i64 x0.Next, .int .i64 x0.Flags, .str x0.User, .str x0.Name, .str x0.Text], 0⟩]) (fun y => y17 = y) (fun _ _ _ _ g h => RW.gh g h) ?_ ?_
        ·refine RW.reg ?_
         refine rl.run 2 rfl ?_
         cases hb : y11
         ·have h78 := iteBF ey17 hb
          refine rl.run 11 rfl ?_
          refine rl.gen rfl rfl fun b hb => ?_
          cases b
          ·have h79 := iteBF h78 hb
           refine rl.run 2 rfl (rl.done ?_)
           cases h79
           exact ⟨_, rfl, (Gh.ren0 [0] (.cells rfl rfl (.keep .int (.keep .int (.keep .int (.keep .int (.keep .int (.keep .str (.keep .str (.keep .str .nil)))))))) .nil) rfl (.cons rfl (.ptr rfl) (.cons rfl (.dat .bool) (.cons rfl (.dat .bool) .nil))))⟩
          ·have h80 := iteBT h78 hb
           refine rl.run 2 rfl (rl.done ?_)
           cases h80
           exact ⟨_, rfl, (Gh.ren0 [0] (.cells rfl rfl (.keep .int (.keep .int (.keep .int (.keep .int (.keep .int (.keep .str (.keep .str (.keep .str .nil)))))))) .nil) rfl (.cons rfl (.ptr rfl) (.cons rfl (.dat .bool) (.cons rfl (.dat .bool) .nil))))⟩
         ·have h81 := iteBT ey17 hb
          refine rl.run 2 rfl ?_
          obtain ⟨v18, e18, h82⟩ := bindS h81
          refine rl.call rfl rfl rfl (CallW.val (r' := .bool v18) ok_spec_l01In (law_spec_l01In e18) (.cons .int (.cons .int (.cons .int .nil))) .refl ?_)
          cases hb : v18
          ·have h83 := iteBF h82 hb
           refine rl.run 11 rfl (rl.done ?_)
           cases h83
           exact ⟨_, rfl, (Gh.ren0 [0] (.cells rfl rfl (.keep .int (.keep .int (.keep .int (.keep .int (.keep .int (.keep .str (.keep .str (.keep .str .nil)))))))) .nil) rfl (.cons rfl (.ptr rfl) (.cons rfl (.dat .bool) (.cons rfl (.dat .bool) .nil))))⟩
          ·have h84 := iteBT h82 hb
           refine rl.run 11 rfl (rl.done ?_)
           cases h84
           exact ⟨_, rfl, (Gh.ren0 [0] (.cells rfl rfl (.keep .int (.keep .int (.keep .int (.keep .int (.keep .int (.keep .str (.keep .str (.keep .str .nil)))))))) .nil) rfl (.cons rfl (.ptr rfl) (.cons rfl (.dat .bool) (.cons rfl (.dat .bool) .nil))))⟩
        ·intro y hC
         subst hC
         cases hb : y17
         ·have h85 := iteBF h77 hb
          refine RW.cond_f rfl (RW.skip (RW.seq (RW.seq ?_)))
          obtain ⟨y19, ey19, h86⟩ := bindS h85
          refine RW.cutq (σ := Bool) (fun y19 => [(1, .ptr 0 0), (109, .bool y19)]) (fun y19 => [some ⟨[.int .i64 x0.Kind, .int .i64 x0.Valid, .int .i64 x0.Uid, .int .i64 x0.Next, .int .i64 x0.Flags, .str x0.User, .str x0.Name, .str x0.Text], 0⟩]) (fun y => y19 = y) (fun _ _ _ _ g h => RW.gh g h) ?_ ?_
          ·refine RW.reg ?_
           refine rl.run 2 rfl ?_
           cases hb : y12
           ·have h87 := iteBF ey19 hb
            refine rl.run 11 rfl ?_
            refine rl.gen rfl rfl fun b hb => ?_
            cases b
            ·have h88 := iteBF h87 hb
             refine rl.run 2 rfl (rl.done ?_)
             cases h88
             exact ⟨_, rfl, (Gh.ren0 [0] (.cells rfl rfl (.keep .int (.keep .int (.keep .int (.keep .int (.keep .int (.keep .str (.keep .str (.keep .str .nil)))))))) .nil) rfl (.cons rfl (.ptr rfl) (.cons rfl (.dat .bool) .nil)))⟩
            ·have h89 := iteBT h87 hb
             refine rl.run 2 rfl (rl.done ?_)
             cases h89
             exact ⟨_, rfl, (Gh.ren0 [0] (.cells rfl rfl (.keep .int (.keep .int (.keep .int (.keep .int (.keep .int (.keep .str (.keep .str (.keep .str .nil)))))))) .nil) rfl (.cons rfl (.ptr rfl) (.cons rfl (.dat .bool) .nil)))⟩
           ·have h90 := iteBT ey19 hb
            refine rl.run 2 rfl ?_
            obtain ⟨v20, e20, h91⟩ := bindS h90
            refine rl.call rfl rfl rfl (CallW.val (r' := .bool v20) ok_spec_l01In (law_spec_l01In e20) (.cons .int (.cons .int (.cons .int .nil))) .refl ?_)
            cases hb : v20
            ·have h92 := iteBF h91 hb
             refine rl.run 11 rfl (rl.done ?_)
             cases h92
             exact ⟨_, rfl, (Gh.ren0 [0] (.cells rfl rfl (.keep .int (.keep .int (.keep .int (.keep .int (.keep .int (.keep .str (.keep .str (.keep .str .nil)))))))) .nil) rfl (.cons rfl (.ptr rfl) (.cons rfl (.dat .bool) .nil)))⟩
            ·have h93 := iteBT h91 hb
             refine rl.run 11 rfl (rl.done ?_)
             cases h93
             exact ⟨_, rfl, (Gh.ren0 [0] (.cells rfl rfl (.keep .int (.keep .int (.keep .int (.keep .int (.keep .int (.keep .str (.keep .str (.keep .str .nil)))))))) .nil) rfl (.cons rfl (.ptr rfl) (.cons rfl (.dat .bool) .nil)))⟩
          ·intro y hC
           subst hC
           cases hb : y19
           ·have h94 := iteBF h86 hb
            refine RW.cond_f rfl (RW.skip (RW.seq (RW.sreg (rl.run 2 rfl ?_))))
            refine rl.gen rfl rfl fun b hb => ?_
            cases b
            ·have h95 := iteBF h94 hb
             refine rl.done (RW.cond_f rfl (RW.skip (RW.sreg (rl.run 4 rfl (rl.done (RW.ret ?_))))))
             cases h95
             exact RRet.mk rfl .bool (by first | decide | simp)
            ·have h96 := iteBT h94 hb
             refine rl.done (RW.cond_t rfl (RW.sreg (rl.run 5 rfl (rl.done (RW.ret ?_)))))
             cases h96
             exact RRet.mk rfl .bool (by first | decide | simp)
           ·have h97 := iteBT h86 hb
            refine RW.cond_t rfl (RW.sreg (rl.run 1 rfl (rl.done (RW.ret ?_))))
            cases h97
            exact RRet.mk rfl .bool (by first | decide | simp)
         ·have h98 := iteBT h77 hb
          refine RW.cond_t rfl (RW.sreg (rl.run 1 rfl (rl.done (RW.ret ?_))))
          cases h98
          exact RRet.mk rfl .bool (by first | decide | simp)
       ·have h99 := iteBT h66 hb
        refine RW.cond_t rfl (RW.sreg (rl.run 1 rfl (rl.done (RW.ret ?_))))
        cases h99
        exact RRet.mk rfl .bool (by first | decide | simp)
  ·have h100 := iteBT h1 hb
   refine RW.cond_t rfl (RW.sreg (rl.run 1 rfl (rl.done (RW.ret ?_))))
   cases h100
   exact RRet.mk rfl .bool (by first | decide | simp)
theorem law_spec_l06Short {x0 : List UInt8} {r : List UInt8} (hF : F_spec_l06Short x0 = some r) : PCalls Try.prog 160 [.str x0] (.str r) := by
 refine PCalls.of_r k_spec_l06Short rfl ?_
 unfold F_spec_l06Short at hF
 refine RW.sreg (rl.run 1 rfl (rl.done (RW.sreg (rl.run 2 rfl ?_))))
 obtain ⟨v1, e1, h1⟩ := bindS hF
 refine rl.call rfl rfl rfl (CallW.val (r' := .str v1) ok_spec_l01Var (law_spec_l01Var e1) (.cons .int .nil) .refl ?_)
 refine rl.run 1 rfl ?_
 obtain ⟨v2, e2, h2⟩ := bindS h1
 refine rl.op (x_cat rfl rfl e2) ?_
 refine rl.run 1 rfl (rl.done (RW.ret ?_))
 cases h2
 exact RRet.mk rfl .str (by first | decide | simp)
theorem law_spec_RecText {x0 : TRec} {r : (List UInt8) × Bool} (hF : F_spec_RecText x0 = some r) : PCalls Try.prog 210 [.agg (enc_TRec false x0)] (.tup [.str r.1, .bool r.2]) := by
 refine PCalls.of_r k_spec_RecText rfl ?_
 unfold F_spec_RecText at hF
 refine RW.sreg (rl.run 3 rfl (rl.done (RW.seq (RW.sreg (rl.run 1 rfl ?_)))))
 obtain ⟨v1, e1, h1⟩ := bindS hF
 refine rl.call rfl rfl rfl (CallW.val (r' := .bool v1) ok_spec_RecOk (law_spec_RecOk e1) (.cons (DFL.agg (.cons .int (.cons .int (.cons .int (.cons .int (.cons .int (.cons .str (.cons .str (.cons .str .nil))))))))) .nil) .refl ?_)
 cases hb : v1
 ·have h2 := iteBF h1 hb
  refine rl.run 1 rfl (rl.done (RW.cond_t rfl (RW.sreg (rl.run 2 rfl (rl.done (RW.ret ?_))))))
  cases h2
  exact RRet.mk rfl (OutT.tup (.cons .str (.cons .bool .nil))) (by first | decide | simp)
 ·have h3 := iteBT h1 hb
  refine rl.run 1 rfl (rl.done (RW.cond_f rfl (RW.skip (RW.sdrw (rdraw.op rfl rfl (rdraw.op rfl rfl (rdraw.op rfl rfl ?_)))))))
  refine rdraw.chn rfl rfl ?_
  refine rdraw.op rfl (x_cvb_sl (o := true) (l := [IntKind.u8.wrap x0.Kind]) rfl rfl) ?_
  refine rdraw.opA rfl rfl (.here (.rx rfl) .nil) ?_
  refine rdraw.opA rfl rfl (.here (.rx rfl) .nil) ?_
  obtain ⟨v2, e2, h4⟩ := bindS h3
  refine rdraw.callA rfl rfl rfl (CallW.val (r' := .str v2) ok_spec_l01Var (law_spec_l01Var e2) (.cons .int .nil) .refl ⟨rfl, (.here (.cl rfl rfl (CallW.val (r' := .str v2) ok_spec_l01Var (law_spec_l01Var e2) (.cons .int .nil) .refl ⟨rfl, rfl⟩)) .nil), ?_⟩)
  obtain ⟨v3, e3, h5⟩ := bindS h4
  refine rdraw.op rfl (x_cat rfl rfl e3) ?_
  refine rdraw.opA rfl rfl (.here (.rx rfl) .nil) ?_
  refine rdraw.opA rfl rfl (.here (.rx rfl) .nil) ?_
  obtain ⟨v4, e4, h6⟩ := bindS h5
  refine rdraw.callA rfl rfl rfl (CallW.val (r' := .str v4) ok_spec_l01Var (law_spec_l01Var e4) (.cons .int .nil) .refl ⟨rfl, (.here (.cl rfl rfl (CallW.val (r' := .str v4) ok_spec_l01Var (law_spec_l01Var e4) (.cons .int .nil) .refl ⟨rfl, rfl⟩)) .nil), ?_⟩)
  obtain ⟨v5, e5, h7⟩ := bindS h6
  refine rdraw.op rfl (x_cat rfl rfl e5) ?_
  refine rdraw.opA rfl rfl (.here (.rx rfl) .nil) ?_
  refine rdraw.opA rfl rfl (.here (.rx rfl) .nil) ?_
  obtain ⟨v6, e6, h8⟩ := bindS h7
  refine rdraw.callA rfl rfl rfl (CallW.val (r' := .str v6) ok_spec_l01Var (law_spec_l01Var e6) (.cons .int .nil) .refl ⟨rfl, (.here (.cl rfl rfl (CallW.val (r' := .str v6) ok_spec_l01Var (law_spec_l01Var e6) (.cons .int .nil) .refl ⟨rfl, rfl⟩)) .nil), ?_⟩)
  obtain ⟨v7, e7, h9⟩ := bindS h8
  refine rdraw.op rfl (x_cat rfl rfl e7) ?_
  refine rdraw.opA rfl rfl (.here (.rx rfl) .nil) ?_
  refine rdraw.opA rfl rfl (.here (.rx rfl) .nil) ?_
  obtain ⟨v8, e8, h10⟩ := bindS h9
  refine rdraw.callA rfl rfl rfl (CallW.val (r' := .str v8) ok_spec_l01Var (law_spec_l01Var e8) (.cons .int .nil) .refl ⟨rfl, (.here (.cl rfl rfl (CallW.val (r' := .str v8) ok_spec_l01Var (law_spec_l01Var e8) (.cons .int .nil) .refl ⟨rfl, rfl⟩)) .nil), ?_⟩)
  obtain ⟨v9, e9, h11⟩ := bindS h10
  refine rdraw.op rfl (x_cat rfl rfl e9) ?_
  refine rdraw.opA rfl rfl (.here (.rx rfl) .nil) ?_
  refine rdraw.opA rfl rfl (.here (.rx rfl) .nil) ?_
  obtain ⟨v10, e10, h12⟩ := bindS h11
  refine rdraw.callA rfl rfl rfl (CallW.val (r' := .str v10) ok_spec_l06Short (law_spec_l06Short e10) (.cons .str .nil) .refl ⟨rfl, (.here (.cl rfl rfl (CallW.val (r' := .str v10) ok_spec_l06Short (law_spec_l06Short e10) (.cons .str .nil) .refl ⟨rfl, rfl⟩)) .nil), ?_⟩)
  obtain ⟨v11, e11, h13⟩ := bindS h12
  refine rdraw.op rfl (x_cat rfl rfl e11) ?_
  refine rdraw.opA rfl rfl (.here (.rx rfl) .nil) ?_
  refine rdraw.opA rfl rfl (.here (.rx rfl) .nil) ?_
  obtain ⟨v12, e12, h14⟩ := bindS h13
  refine rdraw.callA rfl rfl rfl (CallW.val (r' := .str v12) ok_spec_l06Short (law_spec_l06Short e12) (.cons .str .nil) .refl ⟨rfl, (.here (.cl rfl rfl (CallW.val (r' := .str v12) ok_spec_l06Short (law_spec_l06Short e12) (.cons .str .nil) .refl ⟨rfl, rfl⟩)) .nil), ?_⟩)
  obtain ⟨v13, e13, h15⟩ := bindS h14
  refine rdraw.op rfl (x_cat rfl rfl e13) ?_
  refine rdraw.opA rfl rfl (.here (.rx rfl) .nil) ?_
  refine rdraw.opA rfl rfl (.here (.rx rfl) .nil) ?_
  obtain ⟨v14, e14, h16⟩ := bindS h15
  refine rdraw.callA rfl rfl rfl (CallW.val (r' := .str v14) ok_spec_l06Short (law_spec_l06Short e14) (.cons .str .nil) .refl ⟨rfl, (.here (.cl rfl rfl (CallW.val (r' := .str v14) ok_spec_l06Short (law_spec_l06Short e14) (.cons .str .nil) .refl ⟨rfl, rfl⟩)) .nil), ?_⟩)
  obtain ⟨v15, e15, h17⟩ := bindS h16
  refine rdraw.op rfl (x_cat rfl rfl e15) ?_
  refine rdraw.op rfl rfl (rdraw.op rfl rfl (rdraw.done ?_))
  refine RW.keep [2, 3] (a' := [(2, .str v15), (3, .bool true)]) (H' := [some ⟨[.int .i64 x0.Kind, .int .i64 x0.Valid, .int .i64 x0.Uid, .int .i64 x0.Next, .int .i64 x0.Flags, .str x0.User, .str x0.Name, .str x0.Text], 0⟩, some ⟨fl (encB true) [IntKind.u8.wrap x0.Kind], 1⟩]) rfl rfl ?_
  refine RW.ret ?_
  cases h17
  exact RRet.mk rfl (OutT.tup (.cons .str (.cons .bool .nil))) (by first | decide | simp)
theorem law_spec_l06ReadShort_w {x0 : TL06Cur} {r : (List UInt8) × TL06Cur} (hF : F_spec_l06ReadShort_w x0 = some r) : ACalls Try.prog 0 218 [.ptr 0 0] [some ⟨[.str x0.mText, .int .i64 x0.mAt, .bool x0.mBad], 0⟩] (.str r.1) [some ⟨[.str r.2.mText, .int .i64 r.2.mAt, .bool r.2.mBad], 0⟩] := by
 refine ACalls.of_s k_spec_l06ReadShort rfl ?_
 unfold F_spec_l06ReadShort_w at hF
 refine RW.sreg (rl.run 1 rfl (rl.done (RW.sdrw (rdraw.op rfl rfl (rdraw.op rfl rfl (rdraw.op rfl rfl (rdraw.op rfl rfl (rdraw.op rfl rfl (rdraw.op rfl rfl (rdraw.op rfl rfl (rdraw.op rfl rfl ?_)))))))))))
 obtain ⟨v1, e1, h1⟩ := bindS hF
 refine rdraw.call rfl rfl rfl (CallW.val (r' := .tup [.str v1.1, .int .i64 v1.2.1, .bool v1.2.2]) ok_spec_ReadShort (law_spec_ReadShort e1) (.cons .str (.cons .int .nil)) (FlL.tup (.cons .refl (.cons .refl (.cons .refl .nil)))) ⟨rfl, ?_⟩)
 refine rdraw.op rfl rfl (rdraw.op rfl rfl (rdraw.op rfl rfl (rdraw.op rfl rfl (rdraw.op rfl rfl (rdraw.op rfl rfl (rdraw.op rfl rfl (rdraw.done ?_)))))))
 refine RW.keep [0, 3, 4, 5] (a' := [(0, .ptr 0 0), (3, .str v1.1), (4, .int .i64 v1.2.1), (5, .bool v1.2.2)]) (H' := [some ⟨[.str x0.mText, .int .i64 x0.mAt, .bool x0.mBad], 0⟩]) rfl rfl ?_
 refine RW.seq (RW.sreg (rl.run 5 rfl ?_))
 cases hb : x0.mBad
 ·have h2 := iteBF h1 hb
  refine rl.run 3 rfl (rl.done ?_)
  cases hb : (!v1.2.2)
  ·have h3 := iteBF h2 hb
   refine RW.cond_f rfl (RW.skip (RW.sreg (rl.run 5 rfl (rl.done ?_))))
   refine RW.keep [3] (a' := [(3, .str v1.1)]) (H' := [some ⟨[.str x0.mText, .int .i64 v1.2.1, .bool false], 0⟩]) rfl rfl ?_
   refine RW.sreg (rl.run 2 rfl (rl.done (RW.ret ?_)))
   cases h3
   exact RRetS.mk rfl .str (Gh.renN [0] (.cells rfl rfl (.keep .str (.keep .int (.keep .bool .nil))) .nil) rfl rfl rfl .nil)
  ·have h4 := iteBT h2 hb
   refine RW.cond_t rfl (RW.sreg (rl.run 4 rfl (rl.done ?_)))
   refine RW.keep [] (a' := []) (H' := [some ⟨[.str x0.mText, .int .i64 x0.mAt, .bool true], 0⟩]) rfl rfl ?_
   refine RW.sreg (rl.run 1 rfl (rl.done (RW.ret ?_)))
   cases h4
   exact RRetS.mk rfl .str (Gh.renN [0] (.cells rfl rfl (.keep .str (.keep .int (.keep .bool .nil))) .nil) rfl rfl rfl .nil)
 ·have h5 := iteBT h1 hb
  refine rl.run 3 rfl (rl.done (RW.cond_t rfl (RW.sreg (rl.run 4 rfl (rl.done ?_)))))
  refine RW.keep [] (a' := []) (H' := [some ⟨[.str x0.mText, .int .i64 x0.mAt, .bool true], 0⟩]) rfl rfl ?_
  refine RW.sreg (rl.run 1 rfl (rl.done (RW.ret ?_)))
  cases h5
  exact RRetS.mk rfl .str (Gh.renN [0] (.cells rfl rfl (.keep .str (.keep .int (.keep .bool .nil))) .nil) rfl rfl rfl .nil)
theorem law_spec_ReadRec {x0 : List UInt8} {r : TRec × Bool} (hF : F_spec_ReadRec x0 = some r) : PCalls Try.prog 207 [.str x0] (.tup [.agg (enc_TRec true r.1), .bool r.2]) := by
 refine PCalls.of_r k_spec_ReadRec rfl ?_
 unfold F_spec_ReadRec at hF
 refine RW.sreg (rl.run 2 rfl (rl.done (RW.seq (RW.sreg (rl.run 1 rfl ?_)))))
 refine rl.gen rfl rfl fun b hb => ?_
 cases b
 ·have h1 := iteBF hF hb
  refine rl.done (RW.cond_f rfl (RW.skip (RW.sreg (rl.run 4 rfl (rl.done ?_)))))
  refine RW.sdrwF [⟨[.int .i64 0, .int .i64 0, .int .i64 0, .int .i64 0, .int .i64 0, .str [], .str [], .str []], 0⟩] ?_
  refine rdraw.op rfl rfl ?_
  obtain ⟨v1, e1, h2⟩ := bindS h1
  refine rdraw.op rfl (x_idx rfl rfl e1) ?_
  refine rdraw.op rfl rfl (rdraw.op rfl rfl ?_)
  obtain ⟨v2, e2, h3⟩ := bindS h2
  refine rdraw.ccallB rfl rfl rfl (CallW.embW (r0 := .int .i64 v2.1) (H' := [some ⟨[.int .i64 0, .int .i64 0, .int .i64 0, .int .i64 0, .int .i64 0, .str [], .str [], .str []], 0⟩, some ⟨[.str v2.2.mText, .int .i64 v2.2.mAt, .bool v2.2.mBad], 0⟩, some ⟨[.int .i64 0, .int .i64 0, .int .i64 0, .int .i64 0, .int .i64 0, .str [], .str [], .str []], 0⟩]) [⟨[.str x0, .int .i64 1, .bool false], 0⟩] [⟨[.str v2.2.mText, .int .i64 v2.2.mAt, .bool v2.2.mBad], 0⟩] [1] ok_spec_l06Var (law_spec_l06Var_w e2) (.cons rfl (fac .str (fac .int (fac .bool fan))) (fac .str (fac .int (fac .bool fan))) .nil) rfl (.cons (.ptr rfl) .nil) .int rfl rfl ⟨(.skip rfl (.here (.rx rfl) (.here (.rx (x_idx rfl rfl e1)) (.here (.rx rfl) .nil)))), ?_⟩)
  refine rdraw.op rfl rfl ?_
  refine rdraw.flt rfl (.cons rfl .nil) ?_
  refine rdraw.chn rfl rfl ?_
  refine rdraw.done ?_
  refine RW.keep [0, 2, 4, 5] (a' := [(0, .str x0), (2, .ptr 0 0), (4, .ptr 1 0), (5, .ptr 2 0)]) (H' := [some ⟨[.int .i64 0, .int .i64 0, .int .i64 0, .int .i64 0, .int .i64 0, .str [], .str [], .str []], 0⟩, some ⟨[.str v2.2.mText, .int .i64 v2.2.mAt, .bool v2.2.mBad], 0⟩, some ⟨[.int .i64 (w64 (v1.toNat : Int)), .int .i64 v2.1, .int .i64 0, .int .i64 0, .int .i64 0, .str [], .str [], .str []], 0⟩]) rfl rfl ?_
  refine RW.sreg (rl.run 1 rfl ?_)
  obtain ⟨v3, e3, h4⟩ := bindS h3
  refine rl.call rfl rfl rfl (CallW.embW (r0 := .int .i64 v3.1) (H' := [some ⟨[.int .i64 0, .int .i64 0, .int .i64 0, .int .i64 0, .int .i64 0, .str [], .str [], .str []], 0⟩, some ⟨[.str v3.2.mText, .int .i64 v3.2.mAt, .bool v3.2.mBad], 0⟩, some ⟨[.int .i64 (w64 (v1.toNat : Int)), .int .i64 v2.1, .int .i64 0, .int .i64 0, .int .i64 0, .str [], .str [], .str []], 0⟩]) [⟨[.str v2.2.mText, .int .i64 v2.2.mAt, .bool v2.2.mBad], 0⟩] [⟨[.str v3.2.mText, .int .i64 v3.2.mAt, .bool v3.2.mBad], 0⟩] [1] ok_spec_l06Var (law_spec_l06Var_w e3) (.cons rfl (fac .str (fac .int (fac .bool fan))) (fac .str (fac .int (fac .bool fan))) .nil) rfl (.cons (.ptr rfl) .nil) .int rfl rfl ?_)
  refine rl.run 2 rfl (rl.done (RW.sreg (rl.run 1 rfl ?_)))
  obtain ⟨v4, e4, h5⟩ := bindS h4
  refine rl.call rfl rfl rfl (CallW.embW (r0 := .int .i64 v4.1) (H' := [some ⟨[.int .i64 0, .int .i64 0, .int .i64 0, .int .i64 0, .int .i64 0, .str [], .str [], .str []], 0⟩, some ⟨[.str v4.2.mText, .int .i64 v4.2.mAt, .bool v4.2.mBad], 0⟩, some ⟨[.int .i64 (w64 (v1.toNat : Int)), .int .i64 v2.1, .int .i64 v3.1, .int .i64 0, .int .i64 0, .str [], .str [], .str []], 0⟩]) [⟨[.str v3.2.mText, .int .i64 v3.2.mAt, .bool v3.2.mBad], 0⟩] [⟨[.str v4.2.mText, .int .i64 v4.2.mAt, .bool v4.2.mBad], 0⟩] [1] ok_spec_l06Var (law_spec_l06Var_w e4) (.cons rfl (fac .str (fac .int (fac .bool fan))) (fac .str (fac .int (fac .bool fan))) .nil) rfl (.cons (.ptr rfl) .nil) .int rfl rfl ?_)
  refine rl.run 2 rfl (rl.done (RW.sreg (rl.run 1 rfl ?_)))
  obtain ⟨v5, e5, h6⟩ := bindS h5
  refine rl.call rfl rfl rfl (CallW.embW (r0 := .int .i64 v5.1) (H' := [some ⟨[.int .i64 0, .int .i64 0, .int .i64 0, .int .i64 0, .int .i64 0, .str [], .str [], .str []], 0⟩, some ⟨[.str v5.2.mText, .int .i64 v5.2.mAt, .bool v5.2.mBad], 0⟩, some ⟨[.int .i64 (w64 (v1.toNat : Int)), .int .i64 v2.1, .int .i64 v3.1, .int .i64 v4.1, .int .i64 0, .str [], .str [], .str []], 0⟩]) [⟨[.str v4.2.mText, .int .i64 v4.2.mAt, .bool v4.2.mBad], 0⟩] [⟨[.str v5.2.mText, .int .i64 v5.2.mAt, .bool v5.2.mBad], 0⟩] [1] ok_spec_l06Var (law_spec_l06Var_w e5) (.cons rfl (fac .str (fac .int (fac .bool fan))) (fac .str (fac .int (fac .bool fan))) .nil) rfl (.cons (.ptr rfl) .nil) .int rfl rfl ?_)
  refine rl.run 2 rfl (rl.done (RW.sreg (rl.run 1 rfl ?_)))
  obtain ⟨v6, e6, h7⟩ := bindS h6
  refine rl.call rfl rfl rfl (CallW.embW (r0 := .str v6.1) (H' := [some ⟨[.int .i64 0, .int .i64 0, .int .i64 0, .int .i64 0, .int .i64 0, .str [], .str [], .str []], 0⟩, some ⟨[.str v6.2.mText, .int .i64 v6.2.mAt, .bool v6.2.mBad], 0⟩, some ⟨[.int .i64 (w64 (v1.toNat : Int)), .int .i64 v2.1, .int .i64 v3.1, .int .i64 v4.1, .int .i64 v5.1, .str [], .str [], .str []], 0⟩]) [⟨[.str v5.2.mText, .int .i64 v5.2.mAt, .bool v5.2.mBad], 0⟩] [⟨[.str v6.2.mText, .int .i64 v6.2.mAt, .bool v6.2.mBad], 0⟩] [1] ok_spec_l06ReadShort (law_spec_l06ReadShort_w e6) (.cons rfl (fac .str (fac .int (fac .bool fan))) (fac .str (fac .int (fac .bool fan))) .nil) rfl (.cons (.ptr rfl) .nil) .str rfl rfl ?_)
  refine rl.run 2 rfl (rl.done ?_)
  refine RW.keep [0, 2, 4, 5] (a' := [(0, .str x0), (2, .ptr 0 0), (4, .ptr 1 0), (5, .ptr 2 0)]) (H' := [some ⟨[.int .i64 0, .int .i64 0, .int .i64 0, .int .i64 0, .int .i64 0, .str [], .str [], .str []], 0⟩, some ⟨[.str v6.2.mText, .int .i64 v6.2.mAt, .bool v6.2.mBad], 0⟩, some ⟨[.int .i64 (w64 (v1.toNat : Int)), .int .i64 v2.1, .int .i64 v3.1, .int .i64 v4.1, .int .i64 v5.1, .str v6.1, .str [], .str []], 0⟩]) rfl rfl ?_
  refine RW.sreg (rl.run 1 rfl ?_)
  obtain ⟨v7, e7, h8⟩ := bindS h7
  refine rl.call rfl rfl rfl (CallW.embW (r0 := .str v7.1) (H' := [some ⟨[.int .i64 0, .int .i64 0, .int .i64 0, .int .i64 0, .int .i64 0, .str [], .str [], .str []], 0⟩, some ⟨[.str v7.2.mText, .int .i64 v7.2.mAt, .bool v7.2.mBad], 0⟩, some ⟨[.int .i64 (w64 (v1.toNat : Int)), .int .i64 v2.1, .int .i64 v3.1, .int .i64 v4.1, .int .i64 v5.1, .str v6.1, .str [], .str []], 0⟩]) [⟨[.str v6.2.mText, .int .i64 v6.2.mAt, .bool v6.2.mBad], 0⟩] [⟨[.str v7.2.mText, .int .i64 v7.2.mAt, .bool v7.2.mBad], 0⟩] [1] ok_spec_l06ReadShort (law_spec_l06ReadShort_w e7) (.cons rfl (fac .str (fac .int (fac .bool fan))) (fac .str (fac .int (fac .bool fan))) .nil) rfl (.cons (.ptr rfl) .nil) .str rfl rfl ?_)
  refine rl.run 2 rfl (rl.done (RW.sreg (rl.run 1 rfl ?_)))
  obtain ⟨v8, e8, h9⟩ := bindS h8
  refine rl.call rfl rfl rfl (CallW.embW (r0 := .str v8.1) (H' := [some ⟨[.int .i64 0, .int .i64 0, .int .i64 0, .int .i64 0, .int .i64 0, .str [], .str [], .str []], 0⟩, some ⟨[.str v8.2.mText, .int .i64 v8.2.mAt, .bool v8.2.mBad], 0⟩, some ⟨[.int .i64 (w64 (v1.toNat : Int)), .int .i64 v2.1, .int .i64 v3.1, .int .i64 v4.1, .int .i64 v5.1, .str v6.1, .str v7.1, .str []], 0⟩]) [⟨[.str v7.2.mText, .int .i64 v7.2.mAt, .bool v7.2.mBad], 0⟩] [⟨[.str v8.2.mText, .int .i64 v8.2.mAt, .bool v8.2.mBad], 0⟩] [1] ok_spec_l06ReadShort (law_spec_l06ReadShort_w e8) (.cons rfl (fac .str (fac .int (fac .bool fan))) (fac .str (fac .int (fac .bool fan))) .nil) rfl (.cons (.ptr rfl) .nil) .str rfl rfl ?_)
  refine rl.run 2 rfl (rl.done (RW.sreg (rl.run 1 rfl ?_)))
  obtain ⟨v9, e9, h10⟩ := bindS h9
  refine rl.call rfl rfl rfl (CallW.val (r' := .tup [.str v9.1, .bool v9.2]) ok_spec_RecText (law_spec_RecText e9) (.cons (DFL.agg (.cons .int (.cons .int (.cons .int (.cons .int (.cons .int (.cons .str (.cons .str (.cons .str .nil))))))))) .nil) (FlL.tup (.cons .refl (.cons .refl .nil))) ?_)
  refine rl.run 5 rfl (rl.done ?_)
  refine RW.keep [0, 2, 4, 5, 6, 7] (a' := [(0, .str x0), (2, .ptr 0 0), (4, .ptr 1 0), (5, .ptr 2 0), (6, .str v9.1), (7, .bool v9.2)]) (H' := [some ⟨[.int .i64 0, .int .i64 0, .int .i64 0, .int .i64 0, .int .i64 0, .str [], .str [], .str []], 0⟩, some ⟨[.str v8.2.mText, .int .i64 v8.2.mAt, .bool v8.2.mBad], 0⟩, some ⟨[.int .i64 (w64 (v1.toNat : Int)), .int .i64 v2.1, .int .i64 v3.1, .int .i64 v4.1, .int .i64 v5.1, .str v6.1, .str v7.1, .str v8.1], 0⟩]) rfl rfl ?_
  refine RW.seq (RW.seq ?_)
  obtain ⟨y10, ey10, h11⟩ := bindS h10
  refine RW.cutq (σ := Bool) (fun y10 => [(2, .ptr 0 0), (5, .ptr 1 0), (55, .bool y10)]) (fun y10 => [some ⟨[.int .i64 0, .int .i64 0, .int .i64 0, .int .i64 0, .int .i64 0, .str [], .str [], .str []], 0⟩, some ⟨[.int .i64 (w64 (v1.toNat : Int)), .int .i64 v2.1, .int .i64 v3.1, .int .i64 v4.1, .int .i64 v5.1, .str v6.1, .str v7.1, .str v8.1], 0⟩]) (fun y => y10 = y) (fun _ _ _ _ g h => RW.gh g h) ?_ ?_
  ·refine RW.reg ?_
   refine rl.run 5 rfl ?_
   cases hb : v8.2.mBad
   ·have h12 := iteBF ey10 hb
    refine rl.run 4 rfl ?_
    cases hb : (!v9.2)
    ·have h13 := iteBF h12 hb
     refine rl.run 2 rfl ?_
     refine rl.gen rfl rfl fun b hb => ?_
     cases b
     ·have h14 := iteBF h13 hb
      refine rl.run 1 rfl (rl.done ?_)
      cases h14
      exact ⟨_, rfl, (Gh.ren0 [0, 2] (.cells rfl rfl (.keep .int (.keep .int (.keep .int (.keep .int (.keep .int (.keep .str (.keep .str (.keep .str .nil)))))))) (.cells rfl rfl (.keep .int (.keep .int (.keep .int (.keep .int (.keep .int (.keep .str (.keep .str (.keep .str .nil)))))))) .nil)) rfl (.cons rfl (.ptr rfl) (.cons rfl (.ptr rfl) (.cons rfl (.dat .bool) .nil))))⟩
     ·have h15 := iteBT h13 hb
      refine rl.run 1 rfl (rl.done ?_)
      cases h15
      exact ⟨_, rfl, (Gh.ren0 [0, 2] (.cells rfl rfl (.keep .int (.keep .int (.keep .int (.keep .int (.keep .int (.keep .str (.keep .str (.keep .str .nil)))))))) (.cells rfl rfl (.keep .int (.keep .int (.keep .int (.keep .int (.keep .int (.keep .str (.keep .str (.keep .str .nil)))))))) .nil)) rfl (.cons rfl (.ptr rfl) (.cons rfl (.ptr rfl) (.cons rfl (.dat .bool) .nil))))⟩
    ·have h16 := iteBT h12 hb
     refine rl.run 4 rfl (rl.done ?_)
     cases h16
     exact ⟨_, rfl, (Gh.ren0 [0, 2] (.cells rfl rfl (.keep .int (.keep .int (.keep .int (.keep .int (.keep .int (.keep .str (.keep .str (.keep .str .nil)))))))) (.cells rfl rfl (.keep .int (.keep .int (.keep .int (.keep .int (.keep .int (.keep .str (.keep .str (.keep .str .nil)))))))) .nil)) rfl (.cons rfl (.ptr rfl) (.cons rfl (.ptr rfl) (.cons rfl (.dat .bool) .nil))))⟩
   ·have h17 := iteBT ey10 hb
    refine rl.run 8 rfl (rl.done ?_)
    cases h17
    exact ⟨_, rfl, (Gh.ren0 [0, 2] (.cells rfl rfl (.keep .int (.keep .int (.keep .int (.keep .int (.keep .int (.keep .str (.keep .str (.keep .str .nil)))))))) (.cells rfl rfl (.keep .int (.keep .int (.keep .int (.keep .int (.keep .int (.keep .str (.keep .str (.keep .str .nil)))))))) .nil)) rfl (.cons rfl (.ptr rfl) (.cons rfl (.ptr rfl) (.cons rfl (.dat .bool) .nil))))⟩
  ·intro y hC
   subst hC
   cases hb : y10
   ·have h18 := iteBF h11 hb
    refine RW.cond_f rfl (RW.skip (RW.sreg (rl.run 3 rfl (rl.done (RW.ret ?_)))))
    cases h18
    exact RRet.mk rfl (OutT.tup (.cons (OutL.agg (.cons .int rfl (.cons .int rfl (.cons .int rfl (.cons .int rfl (.cons .int rfl (.cons .str rfl (.cons .str rfl (.cons .str rfl .nil))))))))) (.cons .bool .nil))) (by first | decide | simp)
   ·have h19 := iteBT h11 hb
    refine RW.cond_t rfl (RW.sreg (rl.run 3 rfl (rl.done (RW.ret ?_))))
    cases h19
    exact RRet.mk rfl (OutT.tup (.cons (OutL.agg (.cons .int rfl (.cons .int rfl (.cons .int rfl (.cons .int rfl (.cons .int rfl (.cons .str rfl (.cons .str rfl (.cons .str rfl .nil))))))))) (.cons .bool .nil))) (by first | decide | simp)
 ·have h20 := iteBT hF hb
  refine rl.done (RW.cond_t rfl (RW.sreg (rl.run 3 rfl (rl.done (RW.ret ?_)))))
  cases h20
  exact RRet.mk rfl (OutT.tup (.cons (OutL.agg (.cons .int rfl (.cons .int rfl (.cons .int rfl (.cons .int rfl (.cons .int rfl (.cons .str rfl (.cons .str rfl (.cons .str rfl .nil))))))))) (.cons .bool .nil))) (by first | decide | simp)
theorem law_spec_FrameItem {x0 : TFrame} {r : TItem × Bool} (hF : F_spec_FrameItem x0 = some r) : PCalls Try.prog 175 [.agg (enc_TFrame false x0)] (.tup [.agg (enc_TItem true r.1), .bool r.2]) := by
 refine PCalls.of_r k_spec_FrameItem rfl ?_
 unfold F_spec_FrameItem at hF
 refine RW.sreg (rl.run 3 rfl (rl.done (RW.sreg (rl.run 2 rfl ?_))))
 obtain ⟨v1, e1, h1⟩ := bindS hF
 refine rl.call rfl rfl rfl (CallW.val (r' := .tup [.agg (enc_TRec false v1.1), .bool v1.2]) ok_spec_ReadRec (law_spec_ReadRec e1) (.cons .str .nil) (FlL.tup (.cons .refl (.cons .refl .nil))) ?_)
 refine rl.run 6 rfl (rl.done (RW.seq (RW.sreg (rl.run 1 rfl ?_))))
 obtain ⟨v2, e2, h2⟩ := bindS h1
 refine rl.call rfl rfl rfl (CallW.val (r' := .bool v2) ok_spec_FrameOk (law_spec_FrameOk e2) (.cons (DFL.agg (.cons .int (.cons .int (.cons .str .nil)))) .nil) .refl ?_)
 cases hb : v2
 ·have h3 := iteBF h2 hb
  refine rl.run 5 rfl (rl.done ?_)
  refine RW.keep [1, 2, 4, 18] (a' := [(1, .ptr 0 0), (2, .ptr 1 0), (4, .ptr 2 0), (18, .bool true)]) (H' := [some ⟨[.int .i64 x0.Gen, .int .i64 x0.Seq, .str x0.Body], 0⟩, some ⟨[.int .i64 0, .int .i64 0, .int .i64 0, .int .i64 0, .int .i64 0, .int .i64 0, .str [], .str [], .str []], 0⟩, some ⟨[.int .i64 v1.1.Kind, .int .i64 v1.1.Valid, .int .i64 v1.1.Uid, .int .i64 v1.1.Next, .int .i64 v1.1.Flags, .str v1.1.User, .str v1.1.Name, .str v1.1.Text], 0⟩]) rfl rfl ?_
  refine RW.cond_t rfl (RW.sreg (rl.run 3 rfl (rl.done (RW.ret ?_))))
  cases h3
  exact RRet.mk rfl (OutT.tup (.cons (OutL.agg (.cons .int rfl (.cons .int rfl (.cons .int rfl (.cons .int rfl (.cons .int rfl (.cons .int rfl (.cons .str rfl (.cons .str rfl (.cons .str rfl .nil)))))))))) (.cons .bool .nil))) (by first | decide | simp)
 ·have h4 := iteBT h2 hb
  refine rl.run 5 rfl (rl.done ?_)
  refine RW.keep [1, 2, 4, 18] (a' := [(1, .ptr 0 0), (2, .ptr 1 0), (4, .ptr 2 0), (18, .bool (!v1.2))]) (H' := [some ⟨[.int .i64 x0.Gen, .int .i64 x0.Seq, .str x0.Body], 0⟩, some ⟨[.int .i64 0, .int .i64 0, .int .i64 0, .int .i64 0, .int .i64 0, .int .i64 0, .str [], .str [], .str []], 0⟩, some ⟨[.int .i64 v1.1.Kind, .int .i64 v1.1.Valid, .int .i64 v1.1.Uid, .int .i64 v1.1.Next, .int .i64 v1.1.Flags, .str v1.1.User, .str v1.1.Name, .str v1.1.Text], 0⟩]) rfl rfl ?_
  cases hb : (!v1.2)
  ·have h5 := iteBF h4 hb
   refine RW.cond_f rfl (RW.skip (RW.sreg (rl.run 6 rfl (rl.done (RW.ret ?_)))))
   cases h5
   exact RRet.mk rfl (OutT.tup (.cons (OutL.agg (.cons .int rfl (.cons .int rfl (.cons .int rfl (.cons .int rfl (.cons .int rfl (.cons .int rfl (.cons .str rfl (.cons .str rfl (.cons .str rfl .nil)))))))))) (.cons .bool .nil))) (by first | decide | simp)
  ·have h6 := iteBT h4 hb
   refine RW.cond_t rfl (RW.sreg (rl.run 3 rfl (rl.done (RW.ret ?_))))
   cases h6
   exact RRet.mk rfl (OutT.tup (.cons (OutL.agg (.cons .int rfl (.cons .int rfl (.cons .int rfl (.cons .int rfl (.cons .int rfl (.cons .int rfl (.cons .str rfl (.cons .str rfl (.cons .str rfl .nil)))))))))) (.cons .bool .nil))) (by first | decide | simp)
theorem law_spec_l09Seg {x0 : TDisk} {x1 : Int} {r : TSeg} (hF : F_spec_l09Seg x0 x1 = some r) : PCalls Try.prog 108 [.agg (enc_TDisk false x0), .int .i64 x1] (.agg (enc_TSeg true r)) := by
 refine PCalls.of_r k_spec_l09Seg rfl ?_
 unfold F_spec_l09Seg at hF
 refine RW.sreg (rl.run 2 rfl (rl.done (RW.sreg (rl.run 2 rfl ?_))))
 obtain ⟨v1, e1, h1⟩ := bindS hF
 refine rl.call rfl rfl rfl (CallW.val (r' := .tup [.lst false 3 (fl (enc_TFrame false) v1.1) v1.1.length, .int .i64 v1.2]) ok_spec_SegFrames (law_spec_SegFrames e1) (.cons (DFL.agg (.cons (.lst ekS) (.cons (.lst ek_TWrite) .nil))) (.cons .int .nil)) (FlL.tup (.cons (ek_TFrame.fflag _).lst (.cons .refl .nil))) ?_)
 refine rl.run 5 rfl (rl.done (RW.sreg (rl.run 3 rfl ?_)))
 obtain ⟨v2, e2, h2⟩ := bindS h1
 refine rl.call rfl rfl rfl (CallW.val (r' := .int .i64 v2) ok_spec_SegGen (law_spec_SegGen e2) (.cons (DFL.agg (.cons (.lst ekS) (.cons (.lst ek_TWrite) .nil))) (.cons .int .nil)) .refl ?_)
 refine rl.run 4 rfl (rl.done ?_)
 refine RW.keep [4, 5, 7] (a' := [(4, .ptr 1 0), (5, .lst false 3 (fl (enc_TFrame false) v1.1) v1.1.length), (7, .ptr 2 0)]) (H' := [some ⟨[.lst false 1 (fl (encS false) x0.Sectors) x0.Sectors.length, .lst false 2 (fl (enc_TWrite false) x0.Cache) x0.Cache.length], 0⟩, some ⟨[.int .i64 0, .int .i64 0, .int .i64 0, .nils], 0⟩, some ⟨[.int .i64 x1, .int .i64 v2, .int .i64 v1.2, .nils], 0⟩]) rfl rfl ?_
 refine RW.seq (RW.sreg (rl.run 1 rfl (rl.done ?_)))
 refine RW.gh (Gh.nil_c 2 3 9 rfl rfl) ?_
 obtain ⟨y8, ey8, h4⟩ := bindS h2
 refine RW.cutq (σ := (List TItem)) (fun y4 => [(4, .ptr 0 0), (7, .ptr 1 0)]) (fun y4 => [some ⟨[.int .i64 0, .int .i64 0, .int .i64 0, .nils], 0⟩, some ⟨[.int .i64 x1, .int .i64 v2, .int .i64 v1.2, .sl 2 0 y4.length], 0⟩, some ⟨fl (enc_TItem true) y4, 9⟩]) (fun y => y8 = y) (fun _ _ _ _ g h => RW.gh g h) ?_ ?_
 ·refine RW.blk ?_
  refine RW.iter (σ := Int × (List TItem)) ey8 (fun s3 => [(4, .ptr 0 0), (5, .lst false 3 (fl (enc_TFrame false) v1.1) v1.1.length), (7, .ptr 1 0), (8, .int .i64 s3.1)]) (fun s3 => [some ⟨[.int .i64 0, .int .i64 0, .int .i64 0, .nils], 0⟩, some ⟨[.int .i64 x1, .int .i64 v2, .int .i64 v1.2, .sl 2 0 s3.2.length], 0⟩, some ⟨fl (enc_TItem true) s3.2, 9⟩]) (Gh.ren0 [1, 2, 3] (.cells rfl rfl (.keep .int (.keep .int (.keep .int (.keep .nils .nil)))) (.cells rfl rfl (.keep .int (.keep .int (.keep .int (.slq rfl rfl .nil)))) (.same rfl (ek_TItem.fref _ _) .nil))) rfl (.cons rfl (.ptr rfl) (.cons rfl (.dat (ek_TFrame.rlst)) (.cons rfl (.ptr rfl) (.cons rfl (.dat .int) .nil))))) (fun s3 B o hS3 hB3 hE3 => ?_)
  unfold S_spec_l09Seg_1 at hS3
  refine RW.seq (RW.sreg (rl.run 3 rfl ?_))
  refine rl.gen rfl rfl fun b hb => ?_
  cases b
  ·have h5 := iteBF hS3 hb
   refine rl.done (RW.cond_f rfl (RW.exit (blkA_eq ?_)))
   cases h5
   exact ⟨_, (hE3 _ rfl).symm, (Gh.ren0 [0, 1, 2] (.cells rfl rfl (.keep .int (.keep .int (.keep .int (.keep .nils .nil)))) (.cells rfl rfl (.keep .int (.keep .int (.keep .int (.slq rfl rfl .nil)))) (.same rfl (ek_TItem.fref _ _) .nil))) rfl (.cons rfl (.ptr rfl) (.cons rfl (.ptr rfl) .nil)))⟩
  ·have h6 := iteBT hS3 hb
   refine rl.done (RW.cond_t rfl (RW.skip (RW.seq (RW.blk (RW.sreg (rl.run 2 rfl ?_))))))
   obtain ⟨v5, e5, h7⟩ := bindS h6
   refine rl.op (x_ia_lst (enc := enc_TFrame) (o := false) rfl rfl rfl e5) ?_
   refine rl.op (x_ld_ela (off' := 0) (vs := (enc_TFrame false v5)) ek_TFrame rfl e5 rfl rfl rfl) ?_
   obtain ⟨v6, e6, h8⟩ := bindS h7
   refine rl.call rfl rfl rfl (CallW.val (r' := .tup [.agg (enc_TItem false v6.1), .bool v6.2]) ok_spec_FrameItem (law_spec_FrameItem e6) (.cons (.dat (.agg (ek_TFrame.dat false _))) .nil) (FlL.tup (.cons .refl (.cons .refl .nil))) ?_)
   refine rl.run 6 rfl (rl.done ?_)
   refine RW.keep [4, 5, 7, 8, 9, 10] (a' := [(4, .ptr 0 0), (5, .lst false 3 (fl (enc_TFrame false) v1.1) v1.1.length), (7, .ptr 1 0), (8, .int .i64 s3.1), (9, .ptr 3 0), (10, .bool v6.2)]) (H' := [some ⟨[.int .i64 0, .int .i64 0, .int .i64 0, .nils], 0⟩, some ⟨[.int .i64 x1, .int .i64 v2, .int .i64 v1.2, .sl 2 0 s3.2.length], 0⟩, some ⟨fl (enc_TItem true) s3.2, 9⟩, some ⟨[.int .i64 v6.1.Seq, .int .i64 v6.1.Rec.Kind, .int .i64 v6.1.Rec.Valid, .int .i64 v6.1.Rec.Uid, .int .i64 v6.1.Rec.Next, .int .i64 v6.1.Rec.Flags, .str v6.1.Rec.User, .str v6.1.Rec.Name, .str v6.1.Rec.Text], 0⟩]) rfl rfl ?_
   refine RW.sreg (rl.run 1 rfl (rl.done ?_))
   cases hb : v6.2
   ·have h9 := iteBF h8 hb
    refine RW.cond_f rfl (RW.skip (RW.reg (rl.run 3 rfl (rl.done ?_))))
    cases h9
    exact hB3 _ rfl _ _ (Gh.ren0 [0, 1, 2] (.cells rfl rfl (.keep .int (.keep .int (.keep .int (.keep .nils .nil)))) (.cells rfl rfl (.keep .int (.keep .int (.keep .int (.slq rfl rfl .nil)))) (.same rfl (ek_TItem.fref _ _) .nil))) rfl (.cons rfl (.ptr rfl) (.cons rfl (.dat (ek_TFrame.rlst)) (.cons rfl (.ptr rfl) (.cons rfl (.dat .int) .nil)))))
   ·have h10 := iteBT h8 hb
    refine RW.cond_t rfl (RW.reg (rl.run 4 rfl ?_))
    obtain ⟨v7, e7, h11⟩ := bindS h10
    refine rl.op (x_app rfl rfl (rapp_sl (l := s3.2) (m := [v6.1]) (o := true) ek_TItem rfl rfl (acont_slq (m := [v6.1]) (o := true) fk_TItem rfl rfl) rfl (fk_TItem.fst _ _) e7)) ?_
    refine rl.run 2 rfl (rl.done (RW.reg (rl.run 3 rfl (rl.done ?_))))
    cases h11
    exact hB3 _ rfl _ _ (Gh.ren0 [0, 1, 5] (.cells rfl rfl (.keep .int (.keep .int (.keep .int (.keep .nils .nil)))) (.cells rfl rfl (.keep .int (.keep .int (.keep .int (.slq rfl rfl .nil)))) (.same rfl (ek_TItem.fref _ _) .nil))) rfl (.cons rfl (.ptr rfl) (.cons rfl (.dat (ek_TFrame.rlst)) (.cons rfl (.ptr rfl) (.cons rfl (.dat .int) .nil)))))
 ·intro y4 hC
  subst hC
  refine RW.sreg (rl.run 2 rfl (rl.done (RW.ret ?_)))
  cases h4
  exact RRet.mk rfl (OutL.agg (.cons .int rfl (.cons .int rfl (.cons .int rfl (.cons (OutR.ownq ek_TItem rfl rfl) rfl .nil))))) (by first | decide | simp)
theorem law_spec_SegOf {x0 : TDisk} {x1 : Int} {r : TSeg} (hF : F_spec_SegOf x0 x1 = some r) : PCalls Try.prog 51 [.agg (enc_TDisk false x0), .int .i64 x1] (.agg (enc_TSeg true r)) := by
 refine PCalls.of_r k_spec_SegOf rfl ?_
 unfold F_spec_SegOf at hF
 refine RW.sreg (rl.run 2 rfl (rl.done (RW.sreg (rl.run 2 rfl ?_))))
 obtain ⟨v1, e1, h1⟩ := bindS hF
 refine rl.call rfl rfl rfl (CallW.own (r' := .agg [.int .i64 v1.No, .int .i64 v1.Gen, .int .i64 v1.End, .sl 2 0 v1.Items.length]) (H' := [some ⟨[.lst false 1 (fl (encS false) x0.Sectors) x0.Sectors.length, .lst false 2 (fl (enc_TWrite false) x0.Cache) x0.Cache.length], 0⟩, some ⟨[.int .i64 0, .int .i64 0, .int .i64 0, .nils], 0⟩, some ⟨fl (enc_TItem true) v1.Items, 9⟩]) ok_spec_l09Seg (law_spec_l09Seg e1) (.cons (DFL.agg (.cons (.lst ekS) (.cons (.lst ek_TWrite) .nil))) (.cons .int .nil)) (ek_TSeg.own _) rfl ?_)
 refine rl.run 1 rfl (rl.done (RW.ret ?_))
 cases h1
 exact RRet.mk rfl (OutL.agg (.cons .int rfl (.cons .int rfl (.cons .int rfl (.cons (OutR.ownq ek_TItem rfl rfl) rfl .nil))))) (by first | decide | simp)
theorem law_impl_in {x0 : Int} {x1 : Int} {x2 : Int} {r : Bool} (hF : F_impl_in x0 x1 x2 = some r) : PCalls Try.prog 130 [.int .i64 x0, .int .i64 x1, .int .i64 x2] (.bool r) := by
 refine PCalls.of_r k_impl_in rfl ?_
 unfold F_impl_in at hF
 refine RW.sreg (rl.run 1 rfl (rl.done (RW.sreg (rl.run 2 rfl ?_))))
 refine rl.gen rfl rfl fun b hb => ?_
 cases b
 ·have h1 := iteBF hF hb
  refine rl.run 6 rfl (rl.done ?_)
  refine RW.keep [6] (a' := [(6, .bool false)]) (H' := []) rfl rfl ?_
  refine RW.ret ?_
  cases h1
  exact RRet.mk rfl .bool (by first | decide | simp)
 ·have h2 := iteBT hF hb
  refine rl.run 6 rfl (rl.done ?_)
  refine RW.keep [6] (a' := [(6, .bool (decide (x0 ≤ x2)))]) (H' := []) rfl rfl ?_
  refine RW.ret ?_
  cases h2
  exact RRet.mk rfl .bool (by first | decide | simp)
theorem law_impl_SegFirst {x0 : Int} {r : Int} (hF : F_impl_SegFirst x0 = some r) : PCalls Try.prog 209 [.int .i64 x0] (.int .i64 r) := by
 refine PCalls.of_r k_impl_SegFirst rfl ?_
 unfold F_impl_SegFirst at hF
 refine RW.sreg (rl.run 1 rfl (rl.done (RW.seq (RW.sreg (rl.run 1 rfl ?_)))))
 obtain ⟨v1, e1, h1⟩ := bindS hF
 refine rl.call rfl rfl rfl (CallW.val (r' := .bool v1) ok_impl_in (law_impl_in e1) (.cons .int (.cons .int (.cons .int .nil))) .refl ?_)
 cases hb : v1
 ·have h2 := iteBF h1 hb
  refine rl.run 1 rfl (rl.done (RW.cond_t rfl (RW.sreg (rl.run 1 rfl (rl.done (RW.ret ?_))))))
  cases h2
  exact RRet.mk rfl .int (by first | decide | simp)
 ·have h3 := iteBT h1 hb
  refine rl.run 1 rfl (rl.done (RW.cond_f rfl (RW.skip (RW.sreg (rl.run 4 rfl (rl.done (RW.ret ?_)))))))
  cases h3
  exact RRet.mk rfl .int (by first | decide | simp)
theorem law_impl_ReadSector {x0 : TDisk} {x1 : Int} {r : (List UInt8) × Bool} (hF : F_impl_ReadSector x0 x1 = some r) : PCalls Try.prog 152 [.agg (enc_TDisk false x0), .int .i64 x1] (.tup [.str r.1, .bool r.2]) := by
 refine PCalls.of_r k_impl_ReadSector rfl ?_
 unfold F_impl_ReadSector at hF
 refine RW.sreg (rl.run 3 rfl (rl.done (RW.seq (RW.sreg (rl.run 5 rfl ?_)))))
 obtain ⟨v1, e1, h1⟩ := bindS hF
 refine rl.call rfl rfl rfl (CallW.val (r' := .bool v1) ok_impl_in (law_impl_in e1) (.cons .int (.cons .int (.cons .int .nil))) .refl ?_)
 cases hb : v1
 ·have h2 := iteBF h1 hb
  refine rl.run 1 rfl (rl.done (RW.cond_t rfl (RW.sreg (rl.run 2 rfl (rl.done (RW.ret ?_))))))
  cases h2
  exact RRet.mk rfl (OutT.tup (.cons .str (.cons .bool .nil))) (by first | decide | simp)
 ·have h3 := iteBT h1 hb
  refine rl.run 1 rfl (rl.done (RW.cond_f rfl (RW.skip (RW.sreg (rl.run 3 rfl ?_)))))
  obtain ⟨v2, e2, h4⟩ := bindS h3
  refine rl.op (x_ia_lst (enc := encS) (o := false) rfl rfl rfl e2) ?_
  refine rl.op (x_ld_el (off' := 0) ekS rfl e2 rfl rfl rfl) ?_
  refine rl.run 1 rfl (rl.done ?_)
  refine RW.keep [1, 2, 6] (a' := [(1, .int .i64 x1), (2, .ptr 0 0), (6, .str v2)]) (H' := [some ⟨[.lst false 1 (fl (encS false) x0.Sectors) x0.Sectors.length, .lst false 2 (fl (enc_TWrite false) x0.Cache) x0.Cache.length], 0⟩]) rfl rfl ?_
  refine RW.seq (RW.sreg (rl.run 4 rfl (rl.done ?_)))
  obtain ⟨y6, ey6, h6⟩ := bindS h4
  refine RW.cutq (σ := (List UInt8)) (fun y4 => [(6, .str y4)]) (fun y4 => []) (fun y => y6 = y) (fun _ _ _ _ g h => RW.gh g h) ?_ ?_
  ·refine RW.blk ?_
   refine RW.iter (σ := (List UInt8) × Int) ey6 (fun s3 => [(1, .int .i64 x1), (6, .str s3.1), (22, .lst false 2 (fl (enc_TWrite false) x0.Cache) x0.Cache.length), (23, .int .i64 (x0.Cache.length : Int)), (24, .int .i64 s3.2)]) (fun s3 => []) (Gh.ren0 [] .nil rfl (.cons rfl (.dat .int) (.cons rfl (.dat .str) (.cons rfl (.dat (ek_TWrite.rlst)) (.cons rfl (.dat .int) (.cons rfl (.dat .int) .nil)))))) (fun s3 B o hS5 hB5 hE5 => ?_)
   unfold S_impl_ReadSector_1 at hS5
   refine RW.sreg ?_
   refine rl.gen rfl rfl fun b hb => ?_
   cases b
   ·have h7 := iteBF hS5 hb
    refine rl.done (RW.seq (RW.cond_f rfl (RW.exit (blkA_eq ?_))))
    cases h7
    exact ⟨_, (hE5 _ rfl).symm, (Gh.ren0 [] .nil rfl (.cons rfl (.dat .str) .nil))⟩
   ·have h8 := iteBT hS5 hb
    refine rl.done (RW.seq (RW.cond_t rfl (RW.skip (RW.seq (RW.blk (RW.sreg ?_))))))
    obtain ⟨v5, e5, h9⟩ := bindS h8
    refine rl.op (x_ia_lst (enc := enc_TWrite) (o := false) rfl rfl rfl e5) ?_
    refine rl.op (x_ld_ela (off' := 0) (vs := (enc_TWrite false v5)) ek_TWrite rfl e5 rfl rfl rfl) ?_
    refine rl.run 2 rfl (rl.done (RW.sreg (rl.run 3 rfl ?_)))
    refine rl.gen rfl rfl fun b hb => ?_
    cases b
    ·have h10 := iteBF h9 hb
     refine rl.done (RW.cond_f rfl (RW.skip (RW.reg (rl.run 2 rfl (rl.done ?_)))))
     cases h10
     exact hB5 _ rfl _ _ (Gh.ren0 [] .nil rfl (.cons rfl (.dat .int) (.cons rfl (.dat .str) (.cons rfl (.dat (ek_TWrite.rlst)) (.cons rfl (.dat .int) (.cons rfl (.dat .int) .nil))))))
    ·have h11 := iteBT h9 hb
     refine rl.done (RW.cond_t rfl (RW.reg (rl.run 3 rfl (rl.done (RW.reg (rl.run 2 rfl (rl.done ?_)))))))
     cases h11
     exact hB5 _ rfl _ _ (Gh.ren0 [] .nil rfl (.cons rfl (.dat .int) (.cons rfl (.dat .str) (.cons rfl (.dat (ek_TWrite.rlst)) (.cons rfl (.dat .int) (.cons rfl (.dat .int) .nil))))))
  ·intro y4 hC
   subst hC
   refine RW.sreg (rl.run 3 rfl (rl.done (RW.ret ?_)))
   cases h6
   exact RRet.mk rfl (OutT.tup (.cons .str (.cons .bool .nil))) (by first | decide | simp)
theorem law_impl_SectorText {x0 : TDisk} {x1 : Int} {x2 : Int} {r : (List UInt8) × Bool} (hF : F_impl_SectorText x0 x1 x2 = some r) : PCalls Try.prog 87 [.agg (enc_TDisk false x0), .int .i64 x1, .int .i64 x2] (.tup [.str r.1, .bool r.2]) := by
 refine PCalls.of_r k_impl_SectorText rfl ?_
 unfold F_impl_SectorText at hF
 refine RW.sreg (rl.run 3 rfl (rl.done (RW.seq (RW.sreg (rl.run 1 rfl ?_)))))
 obtain ⟨v1, e1, h1⟩ := bindS hF
 refine rl.call rfl rfl rfl (CallW.val (r' := .bool v1) ok_impl_in (law_impl_in e1) (.cons .int (.cons .int (.cons .int .nil))) .refl ?_)
 cases hb : v1
 ·have h2 := iteBF h1 hb
  refine rl.run 1 rfl (rl.done (RW.cond_t rfl (RW.sreg (rl.run 2 rfl (rl.done (RW.ret ?_))))))
  cases h2
  exact RRet.mk rfl (OutT.tup (.cons .str (.cons .bool .nil))) (by first | decide | simp)
 ·have h3 := iteBT h1 hb
  refine rl.run 1 rfl (rl.done (RW.cond_f rfl (RW.skip (RW.sreg (rl.run 1 rfl (rl.done (RW.seq (RW.sreg (rl.run 2 rfl (rl.done ?_))))))))))
  obtain ⟨y6, ey6, h5⟩ := bindS h3
  refine RW.cutq (σ := (List UInt8)) (fun y3 => [(8, .str y3)]) (fun y3 => []) (fun y => y6 = .inr y) (fun _ _ _ _ g h => RW.gh g h) ?_ ?_
  ·refine RW.blk ?_
   refine RW.iter (σ := (List UInt8) × Int) ey6 (fun s2 => [(1, .int .i64 x1), (3, .ptr 0 0), (8, .str s2.1), (15, .int .i64 x2), (16, .int .i64 s2.2)]) (fun s2 => [some ⟨[.lst false 1 (fl (encS false) x0.Sectors) x0.Sectors.length, .lst false 2 (fl (enc_TWrite false) x0.Cache) x0.Cache.length], 0⟩]) (Gh.ren0 [0] (.cells rfl rfl (.keep (ekS.rlst) (.keep (ek_TWrite.rlst) .nil)) .nil) rfl (.cons rfl (.dat .int) (.cons rfl (.ptr rfl) (.cons rfl (.dat .str) (.cons rfl (.dat .int) (.cons rfl (.dat .int) .nil)))))) (fun s2 B o hS4 hB4 hE4 => ?_)
   unfold S_impl_SectorText_1 at hS4
   refine RW.sreg ?_
   refine rl.gen rfl rfl fun b hb => ?_
   cases b
   ·have h6 := iteBF hS4 hb
    refine rl.done (RW.seq (RW.cond_f rfl (RW.exit (blkA_eq ?_))))
    cases h6
    exact ⟨_, (hE4 _ rfl).symm, (Gh.ren0 [] .nil rfl (.cons rfl (.dat .str) .nil))⟩
   ·have h7 := iteBT hS4 hb
    refine rl.done (RW.seq (RW.cond_t rfl (RW.skip (RW.seq (RW.blk (RW.sreg (rl.run 2 rfl (rl.done (RW.sreg (rl.run 4 rfl ?_))))))))))
    obtain ⟨v4, e4, h8⟩ := bindS h7
    refine rl.call rfl rfl rfl (CallW.val (r' := .tup [.str v4.1, .bool v4.2]) ok_impl_ReadSector (law_impl_ReadSector e4) (.cons (DFL.agg (.cons (.lst ekS) (.cons (.lst ek_TWrite) .nil))) (.cons .int .nil)) (FlL.tup (.cons .refl (.cons .refl .nil))) ?_)
    refine rl.run 5 rfl (rl.done ?_)
    refine RW.keep [1, 3, 8, 10, 11, 15, 16] (a' := [(1, .int .i64 x1), (3, .ptr 0 0), (8, .str s2.1), (10, .str v4.1), (11, .bool v4.2), (15, .int .i64 x2), (16, .int .i64 s2.2)]) (H' := [some ⟨[.lst false 1 (fl (encS false) x0.Sectors) x0.Sectors.length, .lst false 2 (fl (enc_TWrite false) x0.Cache) x0.Cache.length], 0⟩]) rfl rfl ?_
    refine RW.seq (RW.sreg (rl.run 2 rfl (rl.done ?_)))
    cases hb : (!v4.2)
    ·have h9 := iteBF h8 hb
     refine RW.cond_f rfl (RW.skip (RW.reg (rl.run 2 rfl ?_)))
     obtain ⟨v5, e5, h10⟩ := bindS h9
     refine rl.op (x_cat rfl rfl e5) ?_
     refine rl.run 1 rfl (rl.done (RW.reg (rl.run 2 rfl (rl.done ?_))))
     cases h10
     exact hB4 _ rfl _ _ (Gh.ren0 [0] (.cells rfl rfl (.keep (ekS.rlst) (.keep (ek_TWrite.rlst) .nil)) .nil) rfl (.cons rfl (.dat .int) (.cons rfl (.ptr rfl) (.cons rfl (.dat .str) (.cons rfl (.dat .int) (.cons rfl (.dat .int) .nil))))))
    ·have h11 := iteBT h8 hb
     refine RW.cond_t rfl (RW.sreg (rl.run 2 rfl (rl.done (RW.ret ?_))))
     cases h11
     have h12 := elimL h5 (hE4 _ rfl)
     cases h12
     exact RRet.mk rfl (OutT.tup (.cons .str (.cons .bool .nil))) (by first | decide | simp)
  ·intro y3 hC
   have h5 := elimR h5 hC
   refine RW.sreg (rl.run 3 rfl (rl.done (RW.ret ?_)))
   cases h5
   exact RRet.mk rfl (OutT.tup (.cons .str (.cons .bool .nil))) (by first | decide | simp)
theorem law_impl_SegText {x0 : TDisk} {x1 : Int} {r : List UInt8} (hF : F_impl_SegText x0 x1 = some r) : PCalls Try.prog 177 [.agg (enc_TDisk false x0), .int .i64 x1] (.str r) := by
 refine PCalls.of_r k_impl_SegText rfl ?_
 unfold F_impl_SegText at hF
 refine RW.sreg (rl.run 2 rfl (rl.done (RW.seq (RW.sreg (rl.run 1 rfl ?_)))))
 obtain ⟨v1, e1, h1⟩ := bindS hF
 refine rl.call rfl rfl rfl (CallW.val (r' := .bool v1) ok_impl_in (law_impl_in e1) (.cons .int (.cons .int (.cons .int .nil))) .refl ?_)
 cases hb : v1
 ·have h2 := iteBF h1 hb
  refine rl.run 1 rfl (rl.done (RW.cond_t rfl (RW.sreg (rl.run 1 rfl (rl.done (RW.ret ?_))))))
  cases h2
  exact RRet.mk rfl .str (by first | decide | simp)
 ·have h3 := iteBT h1 hb
  refine rl.run 1 rfl (rl.done (RW.cond_f rfl (RW.skip (RW.sdrw (rdraw.op rfl rfl (rdraw.op rfl rfl ?_))))))
  obtain ⟨v2, e2, h4⟩ := bindS h3
  refine rdraw.call rfl rfl rfl (CallW.val (r' := .int .i64 v2) ok_impl_SegFirst (law_impl_SegFirst e2) (.cons .int .nil) .refl ⟨rfl, ?_⟩)
  obtain ⟨v3, e3, h5⟩ := bindS h4
  refine rdraw.call rfl rfl rfl (CallW.val (r' := .tup [.str v3.1, .bool v3.2]) ok_impl_SectorText (law_impl_SectorText e3) (.cons (DFL.agg (.cons (.lst ekS) (.cons (.lst ek_TWrite) .nil))) (.cons .int (.cons .int .nil))) (FlL.tup (.cons .refl (.cons .refl .nil))) ⟨rfl, ?_⟩)
  refine rdraw.op rfl rfl (rdraw.op rfl rfl (rdraw.op rfl rfl (rdraw.op rfl rfl (rdraw.op rfl rfl (rdraw.done ?_)))))
  refine RW.keep [5] (a' := [(5, .str v3.1)]) (H' := [some ⟨[.lst false 1 (fl (encS false) x0.Sectors) x0.Sectors.length, .lst false 2 (fl (enc_TWrite false) x0.Cache) x0.Cache.length], 0⟩]) rfl rfl ?_
  refine RW.sreg (rl.run 2 rfl (rl.done (RW.ret ?_)))
  cases h5
  exact RRet.mk rfl .str (by first | decide | simp)
theorem law_impl_ReadVar {x0 : List UInt8} {x1 : Int} {r : Int × Int × Bool} (hF : F_impl_ReadVar x0 x1 = some r) : PCalls Try.prog 155 [.str x0, .int .i64 x1] (.tup [.int .i64 r.1, .int .i64 r.2.1, .bool r.2.2]) := by
 refine PCalls.of_r k_impl_ReadVar rfl ?_
 unfold F_impl_ReadVar at hF
 refine RW.sreg (rl.run 3 rfl (rl.done (RW.seq (RW.sreg (rl.run 3 rfl ?_)))))
 obtain ⟨v1, e1, h1⟩ := bindS hF
 refine rl.call rfl rfl rfl (CallW.val (r' := .bool v1) ok_impl_in (law_impl_in e1) (.cons .int (.cons .int (.cons .int .nil))) .refl ?_)
 cases hb : v1
 ·have h2 := iteBF h1 hb
  refine rl.run 1 rfl (rl.done (RW.cond_t rfl (RW.sreg (rl.run 3 rfl (rl.done (RW.ret ?_))))))
  cases h2
  exact RRet.mk rfl (OutT.tup (.cons .int (.cons .int (.cons .bool .nil)))) (by first | decide | simp)
 ·have h3 := iteBT h1 hb
  refine rl.run 1 rfl (rl.done (RW.cond_f rfl (RW.skip (RW.sreg (rl.run 1 rfl (rl.done (RW.seq (RW.sreg (rl.run 1 rfl (rl.done ?_))))))))))
  obtain ⟨y8, ey8, h5⟩ := bindS h3
  refine RW.cutq (σ := Unit) (fun y3 => []) (fun y3 => []) (fun y => y8 = .inr y) (fun _ _ _ _ g h => RW.gh g h) ?_ ?_
  ·refine RW.blk ?_
   refine RW.iter (σ := Int × Int) ey8 (fun s2 => [(0, .str x0), (1, .int .i64 x1), (7, .int .i64 s2.1), (8, .int .i64 s2.2)]) (fun s2 => []) (Gh.ren0 [] .nil rfl (.cons rfl (.dat .str) (.cons rfl (.dat .int) (.cons rfl (.dat .int) (.cons rfl (.dat .int) .nil))))) (fun s2 B o hS4 hB4 hE4 => ?_)
   unfold S_impl_ReadVar_1 at hS4
   refine RW.seq (RW.seq ?_)
   obtain ⟨y4, ey4, h6⟩ := bindS hS4
   refine RW.cutq (σ := Bool) (fun y4 => [(0, .str x0), (1, .int .i64 x1), (7, .int .i64 s2.1), (8, .int .i64 s2.2), (24, .bool y4)]) (fun y4 => []) (fun y => y4 = y) (fun _ _ _ _ g h => RW.gh g h) ?_ ?_
   ·refine RW.reg ?_
    refine rl.run 1 rfl ?_
    refine rl.gen rfl rfl fun b hb => ?_
    cases b
    ·have h7 := iteBF ey4 hb
     refine rl.run 8 rfl (rl.done ?_)
     cases h7
     exact ⟨_, rfl, (Gh.ren0 [] .nil rfl (.cons rfl (.dat .str) (.cons rfl (.dat .int) (.cons rfl (.dat .int) (.cons rfl (.dat .int) (.cons rfl (.dat .bool) .nil))))))⟩
    ·have h8 := iteBT ey4 hb
     refine rl.run 6 rfl ?_
     refine rl.gen rfl rfl fun b hb => ?_
     cases b
     ·have h9 := iteBF h8 hb
      refine rl.run 1 rfl (rl.done ?_)
      cases h9
      exact ⟨_, rfl, (Gh.ren0 [] .nil rfl (.cons rfl (.dat .str) (.cons rfl (.dat .int) (.cons rfl (.dat .int) (.cons rfl (.dat .int) (.cons rfl (.dat .bool) .nil))))))⟩
     ·have h10 := iteBT h8 hb
      refine rl.run 1 rfl (rl.done ?_)
      cases h10
      exact ⟨_, rfl, (Gh.ren0 [] .nil rfl (.cons rfl (.dat .str) (.cons rfl (.dat .int) (.cons rfl (.dat .int) (.cons rfl (.dat .int) (.cons rfl (.dat .bool) .nil))))))⟩
   ·intro y hC
    subst hC
    cases hb : y4
    ·have h11 := iteBF h6 hb
     refine RW.cond_f rfl (RW.exit (blkA_eq ?_))
     cases h11
     exact ⟨_, (hE4 _ rfl).symm, (Gh.ren0 [] .nil rfl .nil)⟩
    ·have h12 := iteBT h6 hb
     refine RW.cond_t rfl (RW.skip (RW.seq (RW.blk (RW.sreg (rl.run 4 rfl ?_)))))
     obtain ⟨v5, e5, h13⟩ := bindS h12
     refine rl.op (x_idx rfl rfl e5) ?_
     refine rl.run 2 rfl (rl.done (RW.sreg (rl.run 5 rfl ?_)))
     obtain ⟨v6, e6, h14⟩ := bindS h13
     refine rl.op (x_shl rfl rfl e6) ?_
     refine rl.run 2 rfl (rl.done ?_)
     refine RW.keep [0, 1, 7, 8, 9] (a' := [(0, .str x0), (1, .int .i64 x1), (7, .int .i64 (orv .i64 s2.1 v6)), (8, .int .i64 s2.2), (9, .int .i64 (w64 (v5.toNat : Int)))]) (H' := []) rfl rfl ?_
     refine RW.seq (RW.sreg (rl.run 1 rfl ?_))
     refine rl.gen rfl rfl fun b hb => ?_
     cases b
     ·have h15 := iteBF h14 hb
      refine rl.done (RW.cond_f rfl (RW.skip (RW.seq (RW.seq ?_))))
      obtain ⟨y7, ey7, h16⟩ := bindS h15
      refine RW.cutq (σ := Bool) (fun y7 => [(1, .int .i64 x1), (7, .int .i64 (orv .i64 s2.1 v6)), (8, .int .i64 s2.2), (51, .bool y7)]) (fun y7 => []) (fun y => y7 = y) (fun _ _ _ _ g h => RW.gh g h) ?_ ?_
      ·refine RW.reg ?_
       refine rl.run 1 rfl ?_
       refine rl.gen rfl rfl fun b hb => ?_
       cases b
       ·have h17 := iteBF ey7 hb
        refine rl.run 6 rfl ?_
        refine rl.gen rfl rfl fun b hb => ?_
        cases b
        ·have h18 := iteBF h17 hb
         refine rl.run 1 rfl (rl.done ?_)
         cases h18
         exact ⟨_, rfl, (Gh.ren0 [] .nil rfl (.cons rfl (.dat .int) (.cons rfl (.dat .int) (.cons rfl (.dat .int) (.cons rfl (.dat .bool) .nil)))))⟩
        ·have h19 := iteBT h17 hb
         refine rl.run 1 rfl (rl.done ?_)
         cases h19
         exact ⟨_, rfl, (Gh.ren0 [] .nil rfl (.cons rfl (.dat .int) (.cons rfl (.dat .int) (.cons rfl (.dat .int) (.cons rfl (.dat .bool) .nil)))))⟩
       ·have h20 := iteBT ey7 hb
        refine rl.run 2 rfl ?_
        refine rl.gen rfl rfl fun b hb => ?_
        cases b
        ·have h21 := iteBF h20 hb
         refine rl.run 3 rfl ?_
         refine rl.gen rfl rfl fun b hb => ?_
         cases b
         ·have h22 := iteBF h21 hb
          refine rl.run 1 rfl (rl.done ?_)
          cases h22
          exact ⟨_, rfl, (Gh.ren0 [] .nil rfl (.cons rfl (.dat .int) (.cons rfl (.dat .int) (.cons rfl (.dat .int) (.cons rfl (.dat .bool) .nil)))))⟩
         ·have h23 := iteBT h21 hb
          refine rl.run 1 rfl (rl.done ?_)
          cases h23
          exact ⟨_, rfl, (Gh.ren0 [] .nil rfl (.cons rfl (.dat .int) (.cons rfl (.dat .int) (.cons rfl (.dat .int) (.cons rfl (.dat .bool) .nil)))))⟩
        ·have h24 := iteBT h20 hb
         refine rl.run 5 rfl (rl.done ?_)
         cases h24
         exact ⟨_, rfl, (Gh.ren0 [] .nil rfl (.cons rfl (.dat .int) (.cons rfl (.dat .int) (.cons rfl (.dat .int) (.cons rfl (.dat .bool) .nil)))))⟩
      ·intro y hC
       subst hC
       cases hb : y7
       ·have h25 := iteBF h16 hb
        refine RW.cond_f rfl (RW.skip (RW.sreg (rl.run 8 rfl (rl.done (RW.ret ?_)))))
        cases h25
        have h26 := elimL h5 (hE4 _ rfl)
        cases h26
        exact RRet.mk rfl (OutT.tup (.cons .int (.cons .int (.cons .bool .nil)))) (by first | decide | simp)
       ·have h27 := iteBT h16 hb
        refine RW.cond_t rfl (RW.sreg (rl.run 3 rfl (rl.done (RW.ret ?_))))
        cases h27
        have h28 := elimL h5 (hE4 _ rfl)
        cases h28
        exact RRet.mk rfl (OutT.tup (.cons .int (.cons .int (.cons .bool .nil)))) (by first | decide | simp)
     ·have h29 := iteBT h14 hb
      refine rl.done (RW.cond_t rfl (RW.exit (blkA_eq (RW.reg (rl.run 3 rfl (rl.done ?_))))))
      cases h29
      exact hB4 _ rfl _ _ (Gh.ren0 [] .nil rfl (.cons rfl (.dat .str) (.cons rfl (.dat .int) (.cons rfl (.dat .int) (.cons rfl (.dat .int) .nil)))))
  ·intro y3 hC
   have h5 := elimR h5 hC
   refine RW.sreg (rl.run 3 rfl (rl.done (RW.ret ?_)))
   cases h5
   exact RRet.mk rfl (OutT.tup (.cons .int (.cons .int (.cons .bool .nil)))) (by first | decide | simp)
theorem law_impl_ReadShort {x0 : List UInt8} {x1 : Int} {r : (List UInt8) × Int × Bool} (hF : F_impl_ReadShort x0 x1 = some r) : PCalls Try.prog 153 [.str x0, .int .i64 x1] (.tup [.str r.1, .int .i64 r.2.1, .bool r.2.2]) := by
 refine PCalls.of_r k_impl_ReadShort rfl ?_
 unfold F_impl_ReadShort at hF
 refine RW.sreg (rl.run 3 rfl (rl.done (RW.sreg (rl.run 2 rfl ?_))))
 obtain ⟨v1, e1, h1⟩ := bindS hF
 refine rl.call rfl rfl rfl (CallW.val (r' := .tup [.int .i64 v1.1, .int .i64 v1.2.1, .bool v1.2.2]) ok_impl_ReadVar (law_impl_ReadVar e1) (.cons .str (.cons .int .nil)) (FlL.tup (.cons .refl (.cons .refl (.cons .refl .nil)))) ?_)
 refine rl.run 7 rfl (rl.done ?_)
 refine RW.keep [0, 7, 8, 9] (a' := [(0, .str x0), (7, .int .i64 v1.1), (8, .int .i64 v1.2.1), (9, .bool v1.2.2)]) (H' := []) rfl rfl ?_
 refine RW.seq (RW.seq ?_)
 obtain ⟨y2, ey2, h2⟩ := bindS h1
 refine RW.cutq (σ := Bool) (fun y2 => [(0, .str x0), (7, .int .i64 v1.1), (8, .int .i64 v1.2.1), (30, .bool y2)]) (fun y2 => []) (fun y => y2 = y) (fun _ _ _ _ g h => RW.gh g h) ?_ ?_
 ·refine RW.reg ?_
  refine rl.run 3 rfl ?_
  cases hb : (!v1.2.2)
  ·have h3 := iteBF ey2 hb
   refine rl.run 1 rfl ?_
   refine rl.gen rfl rfl fun b hb => ?_
   cases b
   ·have h4 := iteBF h3 hb
    refine rl.run 7 rfl ?_
    refine rl.gen rfl rfl fun b hb => ?_
    cases b
    ·have h5 := iteBF h4 hb
     refine rl.run 1 rfl (rl.done ?_)
     cases h5
     exact ⟨_, rfl, (Gh.ren0 [] .nil rfl (.cons rfl (.dat .str) (.cons rfl (.dat .int) (.cons rfl (.dat .int) (.cons rfl (.dat .bool) .nil)))))⟩
    ·have h6 := iteBT h4 hb
     refine rl.run 1 rfl (rl.done ?_)
     cases h6
     exact ⟨_, rfl, (Gh.ren0 [] .nil rfl (.cons rfl (.dat .str) (.cons rfl (.dat .int) (.cons rfl (.dat .int) (.cons rfl (.dat .bool) .nil)))))⟩
   ·have h7 := iteBT h3 hb
    refine rl.run 9 rfl (rl.done ?_)
    cases h7
    exact ⟨_, rfl, (Gh.ren0 [] .nil rfl (.cons rfl (.dat .str) (.cons rfl (.dat .int) (.cons rfl (.dat .int) (.cons rfl (.dat .bool) .nil)))))⟩
  ·have h8 := iteBT ey2 hb
   refine rl.run 11 rfl (rl.done ?_)
   cases h8
   exact ⟨_, rfl, (Gh.ren0 [] .nil rfl (.cons rfl (.dat .str) (.cons rfl (.dat .int) (.cons rfl (.dat .int) (.cons rfl (.dat .bool) .nil)))))⟩
 ·intro y hC
  subst hC
  cases hb : y2
  ·have h9 := iteBF h2 hb
   refine RW.cond_f rfl (RW.skip (RW.sreg (rl.run 5 rfl ?_)))
   obtain ⟨v3, e3, h10⟩ := bindS h9
   refine rl.op (x_sls rfl rfl rfl abnd_both e3) ?_
   refine rl.run 6 rfl (rl.done ?_)
   refine RW.keep [4, 5, 6] (a' := [(4, .str v3), (5, .int .i64 (w64 (v1.2.1 + v1.1))), (6, .bool true)]) (H' := []) rfl rfl ?_
   refine RW.ret ?_
   cases h10
   exact RRet.mk rfl (OutT.tup (.cons .str (.cons .int (.cons .bool .nil)))) (by first | decide | simp)
  ·have h11 := iteBT h2 hb
   refine RW.cond_t rfl (RW.sreg (rl.run 3 rfl (rl.done (RW.ret ?_))))
   cases h11
   exact RRet.mk rfl (OutT.tup (.cons .str (.cons .int (.cons .bool .nil)))) (by first | decide | simp)
theorem law_impl_FrameOk {x0 : TFrame} {r : Bool} (hF : F_impl_FrameOk x0 = some r) : PCalls Try.prog 180 [.agg (enc_TFrame false x0)] (.bool r) := by
 refine PCalls.of_r k_impl_FrameOk rfl ?_
 unfold F_impl_FrameOk at hF
 refine RW.sreg (rl.run 2 rfl (rl.done (RW.seq ?_)))
 obtain ⟨y1, ey1, h1⟩ := bindS hF
 refine RW.cutq (σ := Bool) (fun y1 => [(2, .bool y1)]) (fun y1 => []) (fun y => y1 = y) (fun _ _ _ _ g h => RW.gh g h) ?_ ?_
 ·refine RW.reg ?_
  refine rl.run 2 rfl ?_
  obtain ⟨v2, e2, h2⟩ := bindS ey1
  refine rl.call rfl rfl rfl (CallW.val (r' := .bool v2) ok_impl_in (law_impl_in e2) (.cons .int (.cons .int (.cons .int .nil))) .refl ?_)
  cases hb : v2
  ·have h3 := iteBF h2 hb
   refine rl.run 12 rfl (rl.done ?_)
   cases h3
   exact ⟨_, rfl, (Gh.ren0 [] .nil rfl (.cons rfl (.dat .bool) .nil))⟩
  ·have h4 := iteBT h2 hb
   refine rl.run 3 rfl ?_
   obtain ⟨v3, e3, h5⟩ := bindS h4
   refine rl.call rfl rfl rfl (CallW.val (r' := .bool v3) ok_impl_in (law_impl_in e3) (.cons .int (.cons .int (.cons .int .nil))) .refl ?_)
   cases hb : v3
   ·have h6 := iteBF h5 hb
    refine rl.run 8 rfl (rl.done ?_)
    cases h6
    exact ⟨_, rfl, (Gh.ren0 [] .nil rfl (.cons rfl (.dat .bool) .nil))⟩
   ·have h7 := iteBT h5 hb
    refine rl.run 5 rfl ?_
    obtain ⟨v4, e4, h8⟩ := bindS h7
    refine rl.call rfl rfl rfl (CallW.val (r' := .bool v4) ok_impl_in (law_impl_in e4) (.cons .int (.cons .int (.cons .int .nil))) .refl ?_)
    refine rl.run 2 rfl (rl.done ?_)
    cases h8
    exact ⟨_, rfl, (Gh.ren0 [] .nil rfl (.cons rfl (.dat .bool) .nil))⟩
 ·intro y hC
  subst hC
  refine RW.ret ?_
  cases h1
  exact RRet.mk rfl .bool (by first | decide | simp)
theorem law_impl_varText {x0 : Int} {r : List UInt8} (hF : F_impl_varText x0 = some r) : PCalls Try.prog 164 [.int .i64 x0] (.str r) := by
 refine PCalls.of_r k_impl_varText rfl ?_
 unfold F_impl_varText at hF
 refine RW.sreg (rl.run 1 rfl (rl.done (RW.sreg (rl.run 2 rfl (rl.done (RW.seq ?_))))))
 refine RW.gh (Gh.nil_t 3 1 rfl) ?_
 obtain ⟨y4, ey4, h2⟩ := bindS hF
 refine RW.cutq (σ := Int × (List Int)) (fun y2 => [(0, .int .i64 y2.1), (3, .sl 0 0 y2.2.length)]) (fun y2 => [some ⟨fl (encB true) y2.2, 1⟩]) (fun y => y4 = y) (fun _ _ _ _ g h => RW.gh g h) ?_ ?_
 ·refine RW.blk ?_
  refine RW.iter (σ := Int × (List Int)) ey4 (fun s1 => [(0, .int .i64 s1.1), (3, .sl 0 0 s1.2.length)]) (fun s1 => [some ⟨fl (encB true) s1.2, 1⟩]) (Gh.ren0 [0] (.same rfl (ekB.fref _ _) .nil) rfl (.cons rfl (.dat .int) (.cons rfl (.slq rfl rfl) .nil))) (fun s1 B o hS1 hB1 hE1 => ?_)
  unfold S_impl_varText_1 at hS1
  refine RW.seq (RW.sreg (rl.run 1 rfl ?_))
  refine rl.gen rfl rfl fun b hb => ?_
  cases b
  ·have h3 := iteBF hS1 hb
   refine rl.done (RW.cond_f rfl (RW.exit (blkA_eq ?_)))
   cases h3
   exact ⟨_, (hE1 _ rfl).symm, (Gh.ren0 [0] (.same rfl (ekB.fref _ _) .nil) rfl (.cons rfl (.dat .int) (.cons rfl (.slq rfl rfl) .nil)))⟩
  ·have h4 := iteBT hS1 hb
   refine rl.done (RW.cond_t rfl (RW.skip (RW.blk (RW.sreg (rl.run 6 rfl ?_)))))
   obtain ⟨v3, e3, h5⟩ := bindS h4
   refine rl.op (x_app rfl rfl (rapp_sl (l := s1.2) (m := [IntKind.u8.wrap (orv .i64 (andv .i64 s1.1 127) 128)]) (o := true) ekB rfl rfl (acont_slq (m := [IntKind.u8.wrap (orv .i64 (andv .i64 s1.1 127) 128)]) (o := true) fkB rfl rfl) rfl (fkB.fst _ _) e3)) ?_
   refine rl.run 1 rfl (rl.done (RW.reg (rl.run 3 rfl (rl.done ?_))))
   cases h5
   exact hB1 _ rfl _ _ (Gh.ren0 [2] (.same rfl (ekB.fref _ _) .nil) rfl (.cons rfl (.dat .int) (.cons rfl (.slq rfl rfl) .nil)))
 ·intro y2 hC
  subst hC
  refine RW.sreg (rl.run 4 rfl ?_)
  obtain ⟨v5, e5, h6⟩ := bindS h2
  refine rl.op (x_app rfl rfl (rapp_sl (l := y4.2) (m := [IntKind.u8.wrap y4.1]) (o := true) ekB rfl rfl (acont_slq (m := [IntKind.u8.wrap y4.1]) (o := true) fkB rfl rfl) rfl (fkB.fst _ _) e5)) ?_
  refine rl.op (x_cvb_sl (o := true) (l := v5) rfl rfl) ?_
  refine rl.run 1 rfl (rl.done (RW.ret ?_))
  cases h6
  exact RRet.mk rfl .str (by first | decide | simp)
theorem law_impl_SumMore {x0 : Int} {x1 : List UInt8} {r : Int} (hF : F_impl_SumMore x0 x1 = some r) : PCalls Try.prog 216 [.int .u32 x0, .str x1] (.int .u32 r) := by
 refine PCalls.of_r k_impl_SumMore rfl ?_
 unfold F_impl_SumMore at hF
 refine RW.sreg (rl.run 1 rfl (rl.done (RW.seq (RW.sreg (rl.run 3 rfl (rl.done ?_))))))
 obtain ⟨y7, ey7, h2⟩ := bindS hF
 refine RW.cutq (σ := Int) (fun y2 => [(0, .int .u32 y2)]) (fun y2 => []) (fun y => y7 = y) (fun _ _ _ _ g h => RW.gh g h) ?_ ?_
 ·refine RW.blk ?_
  refine RW.iter (σ := Int × Int) ey7 (fun s1 => [(0, .int .u32 s1.1), (1, .str x1), (8, .int .i64 (x1.length : Int)), (9, .int .i64 s1.2)]) (fun s1 => []) (Gh.ren0 [] .nil rfl (.cons rfl (.dat .int) (.cons rfl (.dat .str) (.cons rfl (.dat .int) (.cons rfl (.dat .int) .nil))))) (fun s1 B o hS1 hB1 hE1 => ?_)
  unfold S_impl_SumMore_1 at hS1
  refine RW.sreg ?_
  refine rl.gen rfl rfl fun b hb => ?_
  cases b
  ·have h3 := iteBF hS1 hb
   refine rl.done (RW.seq (RW.cond_f rfl (RW.exit (blkA_eq ?_))))
   cases h3
   exact ⟨_, (hE1 _ rfl).symm, (Gh.ren0 [] .nil rfl (.cons rfl (.dat .int) .nil))⟩
  ·have h4 := iteBT hS1 hb
   refine rl.done (RW.seq (RW.cond_t rfl (RW.skip (RW.seq (RW.blk (RW.sreg (rl.run 2 rfl (rl.done (RW.sreg (rl.run 3 rfl ?_))))))))))
   obtain ⟨v3, e3, h5⟩ := bindS h4
   refine rl.op (x_idx rfl rfl e3) ?_
   refine rl.run 3 rfl (rl.done (RW.sreg (rl.run 1 rfl (rl.done ?_))))
   obtain ⟨y6, ey6, h7⟩ := bindS h5
   refine RW.cutq (σ := Int) (fun y5 => [(0, .int .u32 y5), (1, .str x1), (8, .int .i64 (x1.length : Int)), (9, .int .i64 s1.2)]) (fun y5 => []) (fun y => y6 = y) (fun _ _ _ _ g h => RW.gh g h) ?_ ?_
   ·refine RW.blk ?_
    refine RW.iter (σ := Int × Int) ey6 (fun s4 => [(0, .int .u32 s4.1), (1, .str x1), (8, .int .i64 (x1.length : Int)), (9, .int .i64 s1.2), (18, .int .i64 s4.2)]) (fun s4 => []) (Gh.ren0 [] .nil rfl (.cons rfl (.dat .int) (.cons rfl (.dat .str) (.cons rfl (.dat .int) (.cons rfl (.dat .int) (.cons rfl (.dat .int) .nil)))))) (fun s4 B o hS6 hB6 hE6 => ?_)
    unfold S_impl_SumMore_2 at hS6
    refine RW.sreg ?_
    refine rl.gen rfl rfl fun b hb => ?_
    cases b
    ·have h8 := iteBF hS6 hb
     refine rl.done (RW.seq (RW.cond_f rfl (RW.exit (blkA_eq ?_))))
     cases h8
     exact ⟨_, (hE6 _ rfl).symm, (Gh.ren0 [] .nil rfl (.cons rfl (.dat .int) (.cons rfl (.dat .str) (.cons rfl (.dat .int) (.cons rfl (.dat .int) .nil)))))⟩
    ·have h9 := iteBT hS6 hb
     refine rl.done (RW.seq (RW.cond_t rfl (RW.skip (RW.seq (RW.blk (RW.sreg (rl.run 2 rfl ?_)))))))
     refine rl.gen rfl rfl fun b hb => ?_
     cases b
     ·have h10 := iteBF h9 hb
      refine rl.run 1 rfl (rl.done (RW.sreg (rl.run 3 rfl (rl.done (RW.sreg (rl.run 1 rfl (rl.done (RW.cond_f rfl (RW.skip (RW.reg (rl.run 2 rfl ?_)))))))))))
      refine rl.done ?_
      cases h10
      exact hB6 _ rfl _ _ (Gh.ren0 [] .nil rfl (.cons rfl (.dat .int) (.cons rfl (.dat .str) (.cons rfl (.dat .int) (.cons rfl (.dat .int) (.cons rfl (.dat .int) .nil))))))
     ·have h11 := iteBT h9 hb
      refine rl.run 1 rfl (rl.done (RW.sreg (rl.run 3 rfl (rl.done (RW.sreg (rl.run 1 rfl (rl.done (RW.cond_t rfl (RW.reg (rl.run 3 rfl (rl.done ?_)))))))))))
      refine RW.reg (rl.run 2 rfl (rl.done ?_))
      cases h11
      exact hB6 _ rfl _ _ (Gh.ren0 [] .nil rfl (.cons rfl (.dat .int) (.cons rfl (.dat .str) (.cons rfl (.dat .int) (.cons rfl (.dat .int) (.cons rfl (.dat .int) .nil))))))
   ·intro y5 hC
    subst hC
    refine RW.reg (rl.run 2 rfl (rl.done ?_))
    cases h7
    exact hB1 _ rfl _ _ (Gh.ren0 [] .nil rfl (.cons rfl (.dat .int) (.cons rfl (.dat .str) (.cons rfl (.dat .int) (.cons rfl (.dat .int) .nil)))))
 ·intro y2 hC
  subst hC
  refine RW.sreg (rl.run 2 rfl (rl.done (RW.ret ?_)))
  cases h2
  exact RRet.mk rfl .int (by first | decide | simp)
theorem law_impl_SumOf {x0 : List UInt8} {r : Int} (hF : F_impl_SumOf x0 = some r) : PCalls Try.prog 201 [.str x0] (.int .u32 r) := by
 refine PCalls.of_r k_impl_SumOf rfl ?_
 unfold F_impl_SumOf at hF
 refine RW.sreg (rl.run 1 rfl (rl.done (RW.sreg (rl.run 1 rfl ?_))))
 obtain ⟨v1, e1, h1⟩ := bindS hF
 refine rl.call rfl rfl rfl (CallW.val (r' := .int .u32 v1) ok_impl_SumMore (law_impl_SumMore e1) (.cons .int (.cons .str .nil)) .refl ?_)
 refine rl.run 1 rfl (rl.done (RW.ret ?_))
 cases h1
 exact RRet.mk rfl .int (by first | decide | simp)
theorem law_impl_seal {x0 : List UInt8} {r : List UInt8} (hF : F_impl_seal x0 = some r) : PCalls Try.prog 165 [.str x0] (.str r) := by
 refine PCalls.of_r k_impl_seal rfl ?_
 unfold F_impl_seal at hF
 refine RW.sreg (rl.run 1 rfl (rl.done (RW.sreg (rl.run 1 rfl ?_))))
 obtain ⟨v1, e1, h1⟩ := bindS hF
 refine rl.call rfl rfl rfl (CallW.val (r' := .int .u32 v1) ok_impl_SumOf (law_impl_SumOf e1) (.cons .str .nil) .refl ?_)
 refine rl.run 1 rfl (rl.done (RW.sreg (rl.run 12 rfl ?_)))
 refine rl.op (x_cvb_sl (o := true) (l := [IntKind.u8.wrap (shrv .u32 v1 24), IntKind.u8.wrap (shrv .u32 v1 16), IntKind.u8.wrap (shrv .u32 v1 8), IntKind.u8.wrap v1]) rfl rfl) ?_
 refine rl.run 1 rfl (rl.done ?_)
 refine RW.keep [2] (a' := [(2, .str ([IntKind.u8.wrap (shrv .u32 v1 24), IntKind.u8.wrap (shrv .u32 v1 16), IntKind.u8.wrap (shrv .u32 v1 8), IntKind.u8.wrap v1].map ofI))]) (H' := [some ⟨fl (encB true) [IntKind.u8.wrap (shrv .u32 v1 24), IntKind.u8.wrap (shrv .u32 v1 16), IntKind.u8.wrap (shrv .u32 v1 8), IntKind.u8.wrap v1], 1⟩]) rfl rfl ?_
 refine RW.ret ?_
 cases h1
 exact RRet.mk rfl .str (by first | decide | simp)
theorem law_impl_Sealed {x0 : List UInt8} {r : (List UInt8) × Bool} (hF : F_impl_Sealed x0 = some r) : PCalls Try.prog 213 [.str x0] (.tup [.str r.1, .bool r.2]) := by
 refine PCalls.of_r k_impl_Sealed rfl ?_
 unfold F_impl_Sealed at hF
 refine RW.sreg (rl.run 2 rfl (rl.done (RW.seq (RW.sreg (rl.run 2 rfl ?_)))))
 refine rl.gen rfl rfl fun b hb => ?_
 cases b
 ·have h1 := iteBF hF hb
  refine rl.done (RW.cond_f rfl (RW.skip (RW.sreg (rl.run 2 rfl ?_))))
  obtain ⟨v1, e1, h2⟩ := bindS h1
  refine rl.call rfl rfl rfl (CallW.val (r' := .str v1) ok_impl_seal (law_impl_seal e1) (.cons .str .nil) .refl ?_)
  obtain ⟨v2, e2, h3⟩ := bindS h2
  refine rl.op (x_cat rfl rfl e2) ?_
  refine rl.run 2 rfl (rl.done (RW.ret ?_))
  cases h3
  exact RRet.mk rfl (OutT.tup (.cons .str (.cons .bool .nil))) (by first | decide | simp)
 ·have h4 := iteBT hF hb
  refine rl.done (RW.cond_t rfl (RW.sreg (rl.run 2 rfl (rl.done (RW.ret ?_)))))
  cases h4
  exact RRet.mk rfl (OutT.tup (.cons .str (.cons .bool .nil))) (by first | decide | simp)
theorem law_impl_FrameText {x0 : TFrame} {r : (List UInt8) × Bool} (hF : F_impl_FrameText x0 = some r) : PCalls Try.prog 188 [.agg (enc_TFrame false x0)] (.tup [.str r.1, .bool r.2]) := by
 refine PCalls.of_r k_impl_FrameText rfl ?_
 unfold F_impl_FrameText at hF
 refine RW.sreg (rl.run 3 rfl (rl.done (RW.seq (RW.sreg (rl.run 1 rfl ?_)))))
 obtain ⟨v1, e1, h1⟩ := bindS hF
 refine rl.call rfl rfl rfl (CallW.val (r' := .bool v1) ok_impl_FrameOk (law_impl_FrameOk e1) (.cons (DFL.agg (.cons .int (.cons .int (.cons .str .nil)))) .nil) .refl ?_)
 cases hb : v1
 ·have h2 := iteBF h1 hb
  refine rl.run 1 rfl (rl.done (RW.cond_t rfl (RW.sreg (rl.run 2 rfl (rl.done (RW.ret ?_))))))
  cases h2
  exact RRet.mk rfl (OutT.tup (.cons .str (.cons .bool .nil))) (by first | decide | simp)
 ·have h3 := iteBT h1 hb
  refine rl.run 1 rfl (rl.done (RW.cond_f rfl (RW.skip (RW.sdrw (rdraw.op rfl rfl (rdraw.op rfl rfl ?_))))))
  obtain ⟨v2, e2, h4⟩ := bindS h3
  refine rdraw.call rfl rfl rfl (CallW.val (r' := .str v2) ok_impl_varText (law_impl_varText e2) (.cons .int .nil) .refl ⟨rfl, ?_⟩)
  refine rdraw.op rfl rfl (rdraw.op rfl rfl ?_)
  obtain ⟨v3, e3, h5⟩ := bindS h4
  refine rdraw.call rfl rfl rfl (CallW.val (r' := .str v3) ok_impl_varText (law_impl_varText e3) (.cons .int .nil) .refl ⟨rfl, ?_⟩)
  obtain ⟨v4, e4, h6⟩ := bindS h5
  refine rdraw.op rfl (x_cat rfl rfl e4) ?_
  refine rdraw.op rfl rfl (rdraw.op rfl rfl (rdraw.op rfl rfl ?_))
  obtain ⟨v5, e5, h7⟩ := bindS h6
  refine rdraw.call rfl rfl rfl (CallW.val (r' := .str v5) ok_impl_varText (law_impl_varText e5) (.cons .int .nil) .refl ⟨rfl, ?_⟩)
  obtain ⟨v6, e6, h8⟩ := bindS h7
  refine rdraw.op rfl (x_cat rfl rfl e6) ?_
  refine rdraw.op rfl rfl (rdraw.op rfl rfl ?_)
  obtain ⟨v7, e7, h9⟩ := bindS h8
  refine rdraw.op rfl (x_cat rfl rfl e7) ?_
  obtain ⟨v8, e8, h10⟩ := bindS h9
  refine rdraw.call rfl rfl rfl (CallW.val (r' := .tup [.str v8.1, .bool v8.2]) ok_impl_Sealed (law_impl_Sealed e8) (.cons .str .nil) (FlL.tup (.cons .refl (.cons .refl .nil))) ⟨rfl, ?_⟩)
  refine rdraw.op rfl rfl (rdraw.op rfl rfl (rdraw.op rfl rfl (rdraw.op rfl rfl (rdraw.done ?_))))
  refine RW.keep [2, 3] (a' := [(2, .str v8.1), (3, .bool v8.2)]) (H' := [some ⟨[.int .i64 x0.Gen, .int .i64 x0.Seq, .str x0.Body], 0⟩]) rfl rfl ?_
  refine RW.ret ?_
  cases h10
  exact RRet.mk rfl (OutT.tup (.cons .str (.cons .bool .nil))) (by first | decide | simp)
theorem law_impl_ReadFrame {x0 : List UInt8} {x1 : Int} {r : TFrame × Int × Bool} (hF : F_impl_ReadFrame x0 x1 = some r) : PCalls Try.prog 178 [.str x0, .int .i64 x1] (.tup [.agg (enc_TFrame true r.1), .int .i64 r.2.1, .bool r.2.2]) := by
 refine PCalls.of_r k_impl_ReadFrame rfl ?_
 unfold F_impl_ReadFrame at hF
 refine RW.sreg (rl.run 3 rfl (rl.done (RW.sreg (rl.run 2 rfl ?_))))
 obtain ⟨v1, e1, h1⟩ := bindS hF
 refine rl.call rfl rfl rfl (CallW.val (r' := .tup [.int .i64 v1.1, .int .i64 v1.2.1, .bool v1.2.2]) ok_impl_ReadVar (law_impl_ReadVar e1) (.cons .str (.cons .int .nil)) (FlL.tup (.cons .refl (.cons .refl (.cons .refl .nil)))) ?_)
 refine rl.run 7 rfl (rl.done (RW.sreg (rl.run 2 rfl ?_)))
 obtain ⟨v2, e2, h2⟩ := bindS h1
 refine rl.call rfl rfl rfl (CallW.val (r' := .tup [.int .i64 v2.1, .int .i64 v2.2.1, .bool v2.2.2]) ok_impl_ReadVar (law_impl_ReadVar e2) (.cons .str (.cons .int .nil)) (FlL.tup (.cons .refl (.cons .refl (.cons .refl .nil)))) ?_)
 refine rl.run 7 rfl (rl.done ?_)
 refine RW.keep [0, 1, 4, 7, 8, 9, 10, 11] (a' := [(0, .str x0), (1, .int .i64 x1), (4, .ptr 0 0), (7, .int .i64 v1.1), (8, .int .i64 v2.2.1), (9, .bool v1.2.2), (10, .int .i64 v2.1), (11, .bool v2.2.2)]) (H' := [some ⟨[.int .i64 0, .int .i64 0, .str []], 0⟩]) rfl rfl ?_
 refine RW.sreg (rl.run 2 rfl ?_)
 obtain ⟨v3, e3, h3⟩ := bindS h2
 refine rl.call rfl rfl rfl (CallW.val (r' := .tup [.str v3.1, .int .i64 v3.2.1, .bool v3.2.2]) ok_impl_ReadShort (law_impl_ReadShort e3) (.cons .str (.cons .int .nil)) (FlL.tup (.cons .refl (.cons .refl (.cons .refl .nil)))) ?_)
 refine rl.run 7 rfl (rl.done (RW.sreg (rl.run 6 rfl (rl.done ?_))))
 refine RW.keep [0, 1, 4, 8, 9, 11, 13, 14] (a' := [(0, .str x0), (1, .int .i64 x1), (4, .ptr 0 0), (8, .int .i64 v3.2.1), (9, .bool v1.2.2), (11, .bool v2.2.2), (13, .bool v3.2.2), (14, .ptr 1 0)]) (H' := [some ⟨[.int .i64 0, .int .i64 0, .str []], 0⟩, some ⟨[.int .i64 v1.1, .int .i64 v2.1, .str v3.1], 0⟩]) rfl rfl ?_
 refine RW.seq (RW.seq ?_)
 obtain ⟨y4, ey4, h4⟩ := bindS h3
 refine RW.cutq (σ := Bool) (fun y4 => [(0, .str x0), (1, .int .i64 x1), (4, .ptr 0 0), (8, .int .i64 v3.2.1), (14, .ptr 1 0), (63, .bool y4)]) (fun y4 => [some ⟨[.int .i64 0, .int .i64 0, .str []], 0⟩, some ⟨[.int .i64 v1.1, .int .i64 v2.1, .str v3.1], 0⟩]) (fun y => y4 = y) (fun _ _ _ _ g h => RW.gh g h) ?_ ?_
 ·refine RW.reg ?_
  refine rl.run 3 rfl ?_
  cases hb : (!v1.2.2)
  ·have h5 := iteBF ey4 hb
   refine rl.run 4 rfl ?_
   cases hb : (!v2.2.2)
   ·have h6 := iteBF h5 hb
    refine rl.run 4 rfl ?_
    cases hb : (!v3.2.2)
    ·have h7 := iteBF h6 hb
     refine rl.run 1 rfl ?_
     obtain ⟨v5, e5, h8⟩ := bindS h7
     refine rl.call rfl rfl rfl (CallW.val (r' := .bool v5) ok_impl_FrameOk (law_impl_FrameOk e5) (.cons (DFL.agg (.cons .int (.cons .int (.cons .str .nil)))) .nil) .refl ?_)
     cases hb : v5
     ·have h9 := iteBF h8 hb
      refine rl.run 9 rfl (rl.done ?_)
      cases h9
      exact ⟨_, rfl, (Gh.ren0 [0, 1] (.cells rfl rfl (.keep .int (.keep .int (.keep .str .nil))) (.cells rfl rfl (.keep .int (.keep .int (.keep .str .nil))) .nil)) rfl (.cons rfl (.dat .str) (.cons rfl (.dat .int) (.cons rfl (.ptr rfl) (.cons rfl (.dat .int) (.cons rfl (.ptr rfl) (.cons rfl (.dat .bool) .nil)))))))⟩
     ·have h10 := iteBT h8 hb
      refine rl.run 7 rfl ?_
      refine rl.gen rfl rfl fun b hb => ?_
      cases b
      ·have h11 := iteBF h10 hb
       refine rl.run 1 rfl (rl.done ?_)
       cases h11
       exact ⟨_, rfl, (Gh.ren0 [0, 1] (.cells rfl rfl (.keep .int (.keep .int (.keep .str .nil))) (.cells rfl rfl (.keep .int (.keep .int (.keep .str .nil))) .nil)) rfl (.cons rfl (.dat .str) (.cons rfl (.dat .int) (.cons rfl (.ptr rfl) (.cons rfl (.dat .int) (.cons rfl (.ptr rfl) (.cons rfl (.dat .bool) .nil)))))))⟩
      ·have h12 := iteBT h10 hb
       refine rl.run 1 rfl (rl.done ?_)
       cases h12
       exact ⟨_, rfl, (Gh.ren0 [0, 1] (.cells rfl rfl (.keep .int (.keep .int (.keep .str .nil))) (.cells rfl rfl (.keep .int (.keep .int (.keep .str .nil))) .nil)) rfl (.cons rfl (.dat .str) (.cons rfl (.dat .int) (.cons rfl (.ptr rfl) (.cons rfl (.dat .int) (.cons rfl (.ptr rfl) (.cons rfl (.dat .bool) .nil)))))))⟩
    ·have h13 := iteBT h6 hb
     refine rl.run 11 rfl (rl.done ?_)
     cases h13
     exact ⟨_, rfl, (Gh.ren0 [0, 1] (.cells rfl rfl (.keep .int (.keep .int (.keep .str .nil))) (.cells rfl rfl (.keep .int (.keep .int (.keep .str .nil))) .nil)) rfl (.cons rfl (.dat .str) (.cons rfl (.dat .int) (.cons rfl (.ptr rfl) (.cons rfl (.dat .int) (.cons rfl (.ptr rfl) (.cons rfl (.dat .bool) .nil)))))))⟩
   ·have h14 := iteBT h5 hb
    refine rl.run 15 rfl (rl.done ?_)
    cases h14
    exact ⟨_, rfl, (Gh.ren0 [0, 1] (.cells rfl rfl (.keep .int (.keep .int (.keep .str .nil))) (.cells rfl rfl (.keep .int (.keep .int (.keep .str .nil))) .nil)) rfl (.cons rfl (.dat .str) (.cons rfl (.dat .int) (.cons rfl (.ptr rfl) (.cons rfl (.dat .int) (.cons rfl (.ptr rfl) (.cons rfl (.dat .bool) .nil)))))))⟩
  ·have h15 := iteBT ey4 hb
   refine rl.run 19 rfl (rl.done ?_)
   cases h15
   exact ⟨_, rfl, (Gh.ren0 [0, 1] (.cells rfl rfl (.keep .int (.keep .int (.keep .str .nil))) (.cells rfl rfl (.keep .int (.keep .int (.keep .str .nil))) .nil)) rfl (.cons rfl (.dat .str) (.cons rfl (.dat .int) (.cons rfl (.ptr rfl) (.cons rfl (.dat .int) (.cons rfl (.ptr rfl) (.cons rfl (.dat .bool) .nil)))))))⟩
 ·intro y hC
  subst hC
  cases hb : y4
  ·have h16 := iteBF h4 hb
   refine RW.cond_f rfl (RW.skip (RW.seq (RW.sreg (rl.run 1 rfl ?_))))
   obtain ⟨v6, e6, h17⟩ := bindS h16
   refine rl.call rfl rfl rfl (CallW.val (r' := .tup [.str v6.1, .bool v6.2]) ok_impl_FrameText (law_impl_FrameText e6) (.cons (DFL.agg (.cons .int (.cons .int (.cons .str .nil)))) .nil) (FlL.tup (.cons .refl (.cons .refl .nil))) ?_)
   refine rl.run 5 rfl (rl.done (RW.sreg (rl.run 4 rfl ?_)))
   obtain ⟨v7, e7, h18⟩ := bindS h17
   refine rl.op (x_sls rfl rfl rfl abnd_both e7) ?_
   refine rl.run 1 rfl ?_
   refine rl.gen rfl rfl fun b hb => ?_
   cases b
   ·have h19 := iteBF h18 hb
    refine rl.done ?_
    refine RW.keep [4, 8, 14, 76] (a' := [(4, .ptr 0 0), (8, .int .i64 v3.2.1), (14, .ptr 1 0), (76, .bool false)]) (H' := [some ⟨[.int .i64 0, .int .i64 0, .str []], 0⟩, some ⟨[.int .i64 v1.1, .int .i64 v2.1, .str v3.1], 0⟩]) rfl rfl ?_
    refine RW.cond_f rfl (RW.skip (RW.sreg (rl.run 6 rfl (rl.done (RW.ret ?_)))))
    cases h19
    exact RRet.mk rfl (OutT.tup (.cons (OutL.agg (.cons .int rfl (.cons .int rfl (.cons .str rfl .nil)))) (.cons .int (.cons .bool .nil)))) (by first | decide | simp)
   ·have h20 := iteBT h18 hb
    refine rl.done ?_
    refine RW.keep [4, 8, 14, 76] (a' := [(4, .ptr 0 0), (8, .int .i64 v3.2.1), (14, .ptr 1 0), (76, .bool true)]) (H' := [some ⟨[.int .i64 0, .int .i64 0, .str []], 0⟩, some ⟨[.int .i64 v1.1, .int .i64 v2.1, .str v3.1], 0⟩]) rfl rfl ?_
    refine RW.cond_t rfl (RW.sreg (rl.run 4 rfl (rl.done (RW.ret ?_))))
    cases h20
    exact RRet.mk rfl (OutT.tup (.cons (OutL.agg (.cons .int rfl (.cons .int rfl (.cons .str rfl .nil)))) (.cons .int (.cons .bool .nil)))) (by first | decide | simp)
  ·have h21 := iteBT h4 hb
   refine RW.cond_t rfl (RW.sreg (rl.run 4 rfl (rl.done (RW.ret ?_))))
   cases h21
   exact RRet.mk rfl (OutT.tup (.cons (OutL.agg (.cons .int rfl (.cons .int rfl (.cons .str rfl .nil)))) (.cons .int (.cons .bool .nil)))) (by first | decide | simp)
theorem law_impl_SegGen {x0 : TDisk} {x1 : Int} {r : Int} (hF : F_impl_SegGen x0 x1 = some r) : PCalls Try.prog 110 [.agg (enc_TDisk false x0), .int .i64 x1] (.int .i64 r) := by
 refine PCalls.of_r k_impl_SegGen rfl ?_
 unfold F_impl_SegGen at hF
 refine RW.sreg (rl.run 2 rfl (rl.done (RW.sreg (rl.run 2 rfl ?_))))
 obtain ⟨v1, e1, h1⟩ := bindS hF
 refine rl.call rfl rfl rfl (CallW.val (r' := .str v1) ok_impl_SegText (law_impl_SegText e1) (.cons (DFL.agg (.cons (.lst ekS) (.cons (.lst ek_TWrite) .nil))) (.cons .int .nil)) .refl ?_)
 obtain ⟨v2, e2, h2⟩ := bindS h1
 refine rl.call rfl rfl rfl (CallW.val (r' := .tup [.agg (enc_TFrame false v2.1), .int .i64 v2.2.1, .bool v2.2.2]) ok_impl_ReadFrame (law_impl_ReadFrame e2) (.cons .str (.cons .int .nil)) (FlL.tup (.cons .refl (.cons .refl (.cons .refl .nil)))) ?_)
 refine rl.run 8 rfl (rl.done ?_)
 refine RW.keep [5] (a' := [(5, .ptr 1 0)]) (H' := [some ⟨[.lst false 1 (fl (encS false) x0.Sectors) x0.Sectors.length, .lst false 2 (fl (enc_TWrite false) x0.Cache) x0.Cache.length], 0⟩, some ⟨[.int .i64 v2.1.Gen, .int .i64 v2.1.Seq, .str v2.1.Body], 0⟩]) rfl rfl ?_
 refine RW.seq (RW.sreg (rl.run 2 rfl ?_))
 refine rl.gen rfl rfl fun b hb => ?_
 cases b
 ·have h3 := iteBF h2 hb
  refine rl.done (RW.cond_f rfl (RW.skip (RW.sreg (rl.run 3 rfl (rl.done (RW.ret ?_))))))
  cases h3
  exact RRet.mk rfl .int (by first | decide | simp)
 ·have h4 := iteBT h2 hb
  refine rl.done (RW.cond_t rfl (RW.sreg (rl.run 1 rfl (rl.done (RW.ret ?_)))))
  cases h4
  exact RRet.mk rfl .int (by first | decide | simp)
end Go.Proofs.Ytgdcbjoaoagbpaa.V
