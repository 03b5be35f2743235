/- What a call comes to. -/
import Derived.Test.YtgdcbjoaoagbpaaXD0
namespace Go.Proofs.Ytgdcbjoaoagbpaa.V
open Go Go.Proofs Go.RowKit
set_option maxRecDepth 100000
theorem law_laws_eqStringS {x0 : List (List UInt8)} {x1 : List (List UInt8)} {r : Bool} (hF : F_laws_eqStringS x0 x1 = some r) : PCalls Try.prog 89 [.lst false 1 (fl (encS false) x0) x0.length, .lst false 1 (fl (encS false) x1) x1.length] (.bool r) := by
 refine PCalls.of_r k_laws_eqStringS rfl ?_
 unfold F_laws_eqStringS at hF
 refine RW.sreg (rl.run 1 rfl (rl.done (RW.seq (RW.sreg (rl.run 4 rfl ?_)))))
 refine rl.gen rfl rfl fun b hb => ?_
 cases b
 ·have h1 := iteBF hF hb
  refine rl.done (RW.cond_f rfl (RW.skip (RW.seq (RW.sreg (rl.run 1 rfl (rl.done ?_))))))
  obtain ⟨y5, ey5, h3⟩ := bindS h1
  refine RW.cutq (σ := Unit) (fun y2 => []) (fun y2 => []) (fun y => y5 = .inr y) (fun _ _ _ _ g h => RW.gh g h) ?_ ?_
  ·refine RW.blk ?_
   refine RW.iter (σ := Int) ey5 (fun s1 => [(0, .lst false 1 (fl (encS false) x0) x0.length), (1, .lst false 1 (fl (encS false) x1) x1.length), (5, .int .i64 s1)]) (fun s1 => []) (Gh.ren0 [] .nil rfl (.cons rfl (.dat (ekS.rlst)) (.cons rfl (.dat (ekS.rlst)) (.cons rfl (.dat .int) .nil)))) (fun s1 B o hS2 hB2 hE2 => ?_)
   unfold S_laws_eqStringS_1 at hS2
   refine RW.seq (RW.sreg (rl.run 3 rfl ?_))
   refine rl.gen rfl rfl fun b hb => ?_
   cases b
   ·have h4 := iteBF hS2 hb
    refine rl.done (RW.cond_f rfl (RW.exit (blkA_eq ?_)))
    cases h4
    exact ⟨_, (hE2 _ rfl).symm, (Gh.ren0 [] .nil rfl .nil)⟩
   ·have h5 := iteBT hS2 hb
    refine rl.done (RW.cond_t rfl (RW.skip (RW.seq (RW.blk (RW.sdrw (rdraw.op rfl rfl (rdraw.op rfl rfl ?_)))))))
    obtain ⟨v3, e3, h6⟩ := bindS h5
    refine rdraw.op rfl (x_ia_lst (enc := encS) (o := false) rfl rfl rfl e3) ?_
    refine rdraw.op rfl (x_ld_el (off' := 0) ekS rfl e3 rfl rfl rfl) ?_
    refine rdraw.op rfl rfl (rdraw.op rfl rfl ?_)
    obtain ⟨v4, e4, h7⟩ := bindS h6
    refine rdraw.op rfl (x_ia_lst (enc := encS) (o := false) rfl rfl rfl e4) ?_
    refine rdraw.op rfl (x_ld_el (off' := 0) ekS rfl e4 rfl rfl rfl) ?_
    refine rdraw.gen rfl rfl fun b hb => ?_
    cases b
    ·have h8 := iteBF h7 hb
     refine rdraw.done ?_
     refine RW.keep [0, 1, 5, 25] (a' := [(0, .lst false 1 (fl (encS false) x0) x0.length), (1, .lst false 1 (fl (encS false) x1) x1.length), (5, .int .i64 s1), (25, .bool false)]) (H' := []) rfl rfl ?_
     refine RW.cond_f rfl (RW.skip (RW.reg (rl.run 3 rfl (rl.done ?_))))
     cases h8
     exact hB2 _ rfl _ _ (Gh.ren0 [] .nil rfl (.cons rfl (.dat (ekS.rlst)) (.cons rfl (.dat (ekS.rlst)) (.cons rfl (.dat .int) .nil))))
    ·have h9 := iteBT h7 hb
     refine rdraw.done ?_
     refine RW.keep [0, 1, 5, 25] (a' := [(0, .lst false 1 (fl (encS false) x0) x0.length), (1, .lst false 1 (fl (encS false) x1) x1.length), (5, .int .i64 s1), (25, .bool true)]) (H' := []) rfl rfl ?_
     refine RW.cond_t rfl (RW.sreg (rl.run 1 rfl (rl.done (RW.ret ?_))))
     cases h9
     have h10 := elimL h3 (hE2 _ rfl)
     cases h10
     exact RRet.mk rfl .bool (by first | decide | simp)
  ·intro y2 hC
   have h3 := elimR h3 hC
   refine RW.sreg (rl.run 1 rfl (rl.done (RW.ret ?_)))
   cases h3
   exact RRet.mk rfl .bool (by first | decide | simp)
 ·have h11 := iteBT hF hb
  refine rl.done (RW.cond_t rfl (RW.sreg (rl.run 1 rfl (rl.done (RW.ret ?_)))))
  cases h11
  exact RRet.mk rfl .bool (by first | decide | simp)
theorem law_laws_eqWrite {x0 : TWrite} {x1 : TWrite} {r : Bool} (hF : F_laws_eqWrite x0 x1 = some r) : PCalls Try.prog 156 [.agg (enc_TWrite false x0), .agg (enc_TWrite false x1)] (.bool r) := by
 refine PCalls.of_r k_laws_eqWrite rfl ?_
 unfold F_laws_eqWrite at hF
 refine RW.sreg (rl.run 3 rfl (rl.done (RW.seq (RW.sreg (rl.run 4 rfl ?_)))))
 refine rl.gen rfl rfl fun b hb => ?_
 cases b
 ·have h1 := iteBF hF hb
  refine rl.done (RW.cond_f rfl (RW.skip (RW.seq (RW.sreg (rl.run 4 rfl ?_)))))
  refine rl.gen rfl rfl fun b hb => ?_
  cases b
  ·have h2 := iteBF h1 hb
   refine rl.done ?_
   refine RW.keep [14] (a' := [(14, .bool false)]) (H' := [some ⟨[.int .i64 x0.At, .str x0.Text], 0⟩, some ⟨[.int .i64 x1.At, .str x1.Text], 0⟩]) rfl rfl ?_
   refine RW.cond_f rfl (RW.skip (RW.sreg (rl.run 1 rfl (rl.done (RW.ret ?_)))))
   cases h2
   exact RRet.mk rfl .bool (by first | decide | simp)
  ·have h3 := iteBT h1 hb
   refine rl.done ?_
   refine RW.keep [14] (a' := [(14, .bool true)]) (H' := [some ⟨[.int .i64 x0.At, .str x0.Text], 0⟩, some ⟨[.int .i64 x1.At, .str x1.Text], 0⟩]) rfl rfl ?_
   refine RW.cond_t rfl (RW.sreg (rl.run 1 rfl (rl.done (RW.ret ?_))))
   cases h3
   exact RRet.mk rfl .bool (by first | decide | simp)
 ·have h4 := iteBT hF hb
  refine rl.done (RW.cond_t rfl (RW.sreg (rl.run 1 rfl (rl.done (RW.ret ?_)))))
  cases h4
  exact RRet.mk rfl .bool (by first | decide | simp)
theorem law_laws_eqWriteS {x0 : List TWrite} {x1 : List TWrite} {r : Bool} (hF : F_laws_eqWriteS x0 x1 = some r) : PCalls Try.prog 90 [.lst false 2 (fl (enc_TWrite false) x0) x0.length, .lst false 2 (fl (enc_TWrite false) x1) x1.length] (.bool r) := by
 refine PCalls.of_r k_laws_eqWriteS rfl ?_
 unfold F_laws_eqWriteS at hF
 refine RW.sreg (rl.run 1 rfl (rl.done (RW.seq (RW.sreg (rl.run 4 rfl ?_)))))
 refine rl.gen rfl rfl fun b hb => ?_
 cases b
 ·have h1 := iteBF hF hb
  refine rl.done (RW.cond_f rfl (RW.skip (RW.seq (RW.sreg (rl.run 1 rfl (rl.done ?_))))))
  obtain ⟨y6, ey6, h3⟩ := bindS h1
  refine RW.cutq (σ := Unit) (fun y2 => []) (fun y2 => []) (fun y => y6 = .inr y) (fun _ _ _ _ g h => RW.gh g h) ?_ ?_
  ·refine RW.blk ?_
   refine RW.iter (σ := Int) ey6 (fun s1 => [(0, .lst false 2 (fl (enc_TWrite false) x0) x0.length), (1, .lst false 2 (fl (enc_TWrite false) x1) x1.length), (5, .int .i64 s1)]) (fun s1 => []) (Gh.ren0 [] .nil rfl (.cons rfl (.dat (ek_TWrite.rlst)) (.cons rfl (.dat (ek_TWrite.rlst)) (.cons rfl (.dat .int) .nil)))) (fun s1 B o hS2 hB2 hE2 => ?_)
   unfold S_laws_eqWriteS_1 at hS2
   refine RW.seq (RW.sreg (rl.run 3 rfl ?_))
   refine rl.gen rfl rfl fun b hb => ?_
   cases b
   ·have h4 := iteBF hS2 hb
    refine rl.done (RW.cond_f rfl (RW.exit (blkA_eq ?_)))
    cases h4
    exact ⟨_, (hE2 _ rfl).symm, (Gh.ren0 [] .nil rfl .nil)⟩
   ·have h5 := iteBT hS2 hb
    refine rl.done (RW.cond_t rfl (RW.skip (RW.seq (RW.blk (RW.sdrw (rdraw.op rfl rfl (rdraw.op rfl rfl ?_)))))))
    obtain ⟨v3, e3, h6⟩ := bindS h5
    refine rdraw.op rfl (x_ia_lst (enc := enc_TWrite) (o := false) rfl rfl rfl e3) ?_
    refine rdraw.op rfl (x_ld_ela (off' := 0) (vs := (enc_TWrite false v3)) ek_TWrite rfl e3 rfl rfl rfl) ?_
    refine rdraw.op rfl rfl (rdraw.op rfl rfl ?_)
    obtain ⟨v4, e4, h7⟩ := bindS h6
    refine rdraw.op rfl (x_ia_lst (enc := enc_TWrite) (o := false) rfl rfl rfl e4) ?_
    refine rdraw.op rfl (x_ld_ela (off' := 0) (vs := (enc_TWrite false v4)) ek_TWrite rfl e4 rfl rfl rfl) ?_
    obtain ⟨v5, e5, h8⟩ := bindS h7
    refine rdraw.call rfl rfl rfl (CallW.val (r' := .bool v5) ok_laws_eqWrite (law_laws_eqWrite e5) (.cons (.dat (.agg (ek_TWrite.dat false _))) (.cons (.dat (.agg (ek_TWrite.dat false _))) .nil)) .refl ⟨rfl, ?_⟩)
    cases hb : v5
    ·have h9 := iteBF h8 hb
     refine rdraw.op rfl rfl (rdraw.done ?_)
     refine RW.keep [0, 1, 5, 26] (a' := [(0, .lst false 2 (fl (enc_TWrite false) x0) x0.length), (1, .lst false 2 (fl (enc_TWrite false) x1) x1.length), (5, .int .i64 s1), (26, .bool true)]) (H' := []) rfl rfl ?_
     refine RW.cond_t rfl (RW.sreg (rl.run 1 rfl (rl.done (RW.ret ?_))))
     cases h9
     have h10 := elimL h3 (hE2 _ rfl)
     cases h10
     exact RRet.mk rfl .bool (by first | decide | simp)
    ·have h11 := iteBT h8 hb
     refine rdraw.op rfl rfl (rdraw.done ?_)
     refine RW.keep [0, 1, 5, 26] (a' := [(0, .lst false 2 (fl (enc_TWrite false) x0) x0.length), (1, .lst false 2 (fl (enc_TWrite false) x1) x1.length), (5, .int .i64 s1), (26, .bool false)]) (H' := []) rfl rfl ?_
     refine RW.cond_f rfl (RW.skip (RW.reg (rl.run 3 rfl (rl.done ?_))))
     cases h11
     exact hB2 _ rfl _ _ (Gh.ren0 [] .nil rfl (.cons rfl (.dat (ek_TWrite.rlst)) (.cons rfl (.dat (ek_TWrite.rlst)) (.cons rfl (.dat .int) .nil))))
  ·intro y2 hC
   have h3 := elimR h3 hC
   refine RW.sreg (rl.run 1 rfl (rl.done (RW.ret ?_)))
   cases h3
   exact RRet.mk rfl .bool (by first | decide | simp)
 ·have h12 := iteBT hF hb
  refine rl.done (RW.cond_t rfl (RW.sreg (rl.run 1 rfl (rl.done (RW.ret ?_)))))
  cases h12
  exact RRet.mk rfl .bool (by first | decide | simp)
theorem law_laws_eqDisk {x0 : TDisk} {x1 : TDisk} {r : Bool} (hF : F_laws_eqDisk x0 x1 = some r) : PCalls Try.prog 44 [.agg (enc_TDisk false x0), .agg (enc_TDisk false x1)] (.bool r) := by
 refine PCalls.of_r k_laws_eqDisk rfl ?_
 unfold F_laws_eqDisk at hF
 refine RW.sreg (rl.run 3 rfl (rl.done (RW.seq (RW.sreg (rl.run 4 rfl ?_)))))
 obtain ⟨v1, e1, h1⟩ := bindS hF
 refine rl.call rfl rfl rfl (CallW.val (r' := .bool v1) ok_laws_eqStringS (law_laws_eqStringS e1) (.cons (.lst ekS) (.cons (.lst ekS) .nil)) .refl ?_)
 cases hb : v1
 ·have h2 := iteBF h1 hb
  refine rl.run 1 rfl (rl.done (RW.cond_t rfl (RW.sreg (rl.run 1 rfl (rl.done (RW.ret ?_))))))
  cases h2
  exact RRet.mk rfl .bool (by first | decide | simp)
 ·have h3 := iteBT h1 hb
  refine rl.run 1 rfl (rl.done (RW.cond_f rfl (RW.skip (RW.seq (RW.sreg (rl.run 4 rfl ?_))))))
  obtain ⟨v2, e2, h4⟩ := bindS h3
  refine rl.call rfl rfl rfl (CallW.val (r' := .bool v2) ok_laws_eqWriteS (law_laws_eqWriteS e2) (.cons (.lst ek_TWrite) (.cons (.lst ek_TWrite) .nil)) .refl ?_)
  cases hb : v2
  ·have h5 := iteBF h4 hb
   refine rl.run 1 rfl (rl.done ?_)
   refine RW.keep [16] (a' := [(16, .bool true)]) (H' := [some ⟨[.lst false 1 (fl (encS false) x0.Sectors) x0.Sectors.length, .lst false 2 (fl (enc_TWrite false) x0.Cache) x0.Cache.length], 0⟩, some ⟨[.lst false 1 (fl (encS false) x1.Sectors) x1.Sectors.length, .lst false 2 (fl (enc_TWrite false) x1.Cache) x1.Cache.length], 0⟩]) rfl rfl ?_
   refine RW.cond_t rfl (RW.sreg (rl.run 1 rfl (rl.done (RW.ret ?_))))
   cases h5
   exact RRet.mk rfl .bool (by first | decide | simp)
  ·have h6 := iteBT h4 hb
   refine rl.run 1 rfl (rl.done ?_)
   refine RW.keep [16] (a' := [(16, .bool false)]) (H' := [some ⟨[.lst false 1 (fl (encS false) x0.Sectors) x0.Sectors.length, .lst false 2 (fl (enc_TWrite false) x0.Cache) x0.Cache.length], 0⟩, some ⟨[.lst false 1 (fl (encS false) x1.Sectors) x1.Sectors.length, .lst false 2 (fl (enc_TWrite false) x1.Cache) x1.Cache.length], 0⟩]) rfl rfl ?_
   refine RW.cond_f rfl (RW.skip (RW.sreg (rl.run 1 rfl (rl.done (RW.ret ?_)))))
   cases h6
   exact RRet.mk rfl .bool (by first | decide | simp)
theorem law_laws_markText {x0 : Int} {r : List UInt8} (hF : F_laws_markText x0 = some r) : PCalls Try.prog 74 [.int .i64 x0] (.str r) := by
 refine PCalls.of_r k_laws_markText rfl ?_
 unfold F_laws_markText at hF
 refine RW.sreg (rl.run 1 rfl (rl.done (RW.seq (RW.sreg (rl.run 1 rfl ?_)))))
 refine rl.gen rfl rfl fun b hb => ?_
 cases b
 ·have h1 := iteBF hF hb
  refine rl.done (RW.cond_f rfl (RW.skip (RW.sreg (rl.run 1 rfl (rl.done (RW.seq ?_))))))
  obtain ⟨y4, ey4, h3⟩ := bindS h1
  refine RW.cutq (σ := (List UInt8)) (fun y2 => [(3, .str y2)]) (fun y2 => []) (fun y => y4 = y) (fun _ _ _ _ g h => RW.gh g h) ?_ ?_
  ·refine RW.blk ?_
   refine RW.iter (σ := Int × (List UInt8)) ey4 (fun s1 => [(0, .int .i64 s1.1), (3, .str s1.2)]) (fun s1 => []) (Gh.ren0 [] .nil rfl (.cons rfl (.dat .int) (.cons rfl (.dat .str) .nil))) (fun s1 B o hS2 hB2 hE2 => ?_)
   unfold S_laws_markText_1 at hS2
   refine RW.seq (RW.sreg (rl.run 1 rfl ?_))
   refine rl.gen rfl rfl fun b hb => ?_
   cases b
   ·have h4 := iteBF hS2 hb
    refine rl.done (RW.cond_f rfl (RW.exit (blkA_eq ?_)))
    cases h4
    exact ⟨_, (hE2 _ rfl).symm, (Gh.ren0 [] .nil rfl (.cons rfl (.dat .str) .nil))⟩
   ·have h5 := iteBT hS2 hb
    refine rl.done (RW.cond_t rfl (RW.skip (RW.blk (RW.sreg (rl.run 5 rfl ?_)))))
    refine rl.op (x_cvb_sl (o := true) (l := [IntKind.u8.wrap (w64 (48 + (Int.tmod s1.1 10)))]) rfl rfl) ?_
    refine rl.run 1 rfl ?_
    obtain ⟨v3, e3, h6⟩ := bindS h5
    refine rl.op (x_cat rfl rfl e3) ?_
    refine rl.run 1 rfl (rl.done (RW.reg (rl.run 3 rfl (rl.done ?_))))
    cases h6
    exact hB2 _ rfl _ _ (Gh.ren0 [] .nil rfl (.cons rfl (.dat .int) (.cons rfl (.dat .str) .nil)))
  ·intro y2 hC
   subst hC
   refine RW.sreg (rl.run 1 rfl ?_)
   obtain ⟨v5, e5, h7⟩ := bindS h3
   refine rl.op (x_cat rfl rfl e5) ?_
   refine rl.run 1 rfl (rl.done (RW.ret ?_))
   cases h7
   exact RRet.mk rfl .str (by first | decide | simp)
 ·have h8 := iteBT hF hb
  refine rl.done (RW.cond_t rfl (RW.sreg (rl.run 1 rfl (rl.done (RW.ret ?_)))))
  cases h8
  exact RRet.mk rfl .str (by first | decide | simp)
theorem law_laws_markStringS_w {x0 : List (List UInt8)} {x1 : Int} {r : Int × (List (List UInt8))} (hF : F_laws_markStringS_w x0 x1 = some r) : ACalls Try.prog 0 91 [.sl 0 0 x0.length, .int .i64 x1] [some ⟨fl (encS true) x0, 1⟩] (.int .i64 r.1) [some ⟨fl (encS true) r.2, 1⟩] := by
 refine ACalls.of_s k_laws_markStringS rfl ?_
 unfold F_laws_markStringS_w at hF
 refine RW.sreg (rl.run 1 rfl (rl.done (RW.seq (RW.sreg (rl.run 1 rfl (rl.done ?_))))))
 obtain ⟨y6, ey6, h2⟩ := bindS hF
 refine RW.cutq (σ := Int × (List (List UInt8))) (fun y2 => [(1, .int .i64 y2.1)]) (fun y2 => [some ⟨fl (encS true) y2.2, 1⟩]) (fun y => y6 = y) (fun _ _ _ _ g h => RW.gh g h) ?_ ?_
 ·refine RW.blk ?_
  refine RW.iter (σ := Int × Int × (List (List UInt8))) ey6 (fun s1 => [(0, .sl 0 0 s1.2.2.length), (1, .int .i64 s1.1), (5, .int .i64 s1.2.1)]) (fun s1 => [some ⟨fl (encS true) s1.2.2, 1⟩]) (Gh.renN [0] (.same rfl (ekS.fref _ _) .nil) rfl rfl rfl (.cons rfl (.slq rfl rfl) (.cons rfl (.dat .int) (.cons rfl (.dat .int) .nil)))) (fun s1 B o hS1 hB1 hE1 => ?_)
  unfold S_laws_markStringS_w_1 at hS1
  refine RW.seq (RW.sreg (rl.run 3 rfl ?_))
  refine rl.gen rfl rfl fun b hb => ?_
  cases b
  ·have h3 := iteBF hS1 hb
   refine rl.done (RW.cond_f rfl (RW.exit (blkA_eq ?_)))
   cases h3
   exact ⟨_, (hE1 _ rfl).symm, (Gh.renN [0] (.same rfl (ekS.fref _ _) .nil) rfl rfl rfl (.cons rfl (.dat .int) .nil))⟩
  ·have h4 := iteBT hS1 hb
   refine rl.done (RW.cond_t rfl (RW.skip (RW.seq (RW.blk (RW.sreg (rl.run 3 rfl ?_))))))
   obtain ⟨v3, e3, h5⟩ := bindS h4
   refine rl.call rfl rfl rfl (CallW.val (r' := .str v3) ok_laws_markText (law_laws_markText e3) (.cons .int .nil) .refl ?_)
   obtain ⟨v4, e4, h6⟩ := bindS h5
   refine rl.op (x_ia_sl rfl rfl rfl rfl e4) ?_
   obtain ⟨v5, e5, h7⟩ := bindS h6
   refine rl.op0 (x_st_sl' (off' := 0) (o := true) (e' := v3) ekS e4 rfl rfl rfl rfl rfl rfl rfl rfl rfl e5) ?_
   refine rl.done (RW.reg (rl.run 3 rfl (rl.done (RW.reg (rl.run 3 rfl (rl.done ?_))))))
   cases h7
   exact hB1 _ rfl _ _ (Gh.renN [0] (.same rfl (ekS.fref _ _) .nil) rfl rfl rfl (.cons rfl (.slq rfl (set'_len e5)) (.cons rfl (.dat .int) (.cons rfl (.dat .int) .nil))))
 ·intro y2 hC
  subst hC
  refine RW.sreg (rl.run 2 rfl (rl.done (RW.ret ?_)))
  cases h2
  exact RRetS.mk rfl .int (Gh.renN [0] (.same rfl (ekS.fref _ _) .nil) rfl rfl rfl .nil)
theorem law_laws_markWriteS_w {x0 : List TWrite} {x1 : Int} {r : Int × (List TWrite)} (hF : F_laws_markWriteS_w x0 x1 = some r) : ACalls Try.prog 0 92 [.sl 0 0 x0.length, .int .i64 x1] [some ⟨fl (enc_TWrite true) x0, 2⟩] (.int .i64 r.1) [some ⟨fl (enc_TWrite true) r.2, 2⟩] := by
 refine ACalls.of_s k_laws_markWriteS rfl ?_
 unfold F_laws_markWriteS_w at hF
 refine RW.sreg (rl.run 1 rfl (rl.done (RW.seq (RW.sreg (rl.run 1 rfl (rl.done ?_))))))
 obtain ⟨y8, ey8, h2⟩ := bindS hF
 refine RW.cutq (σ := Int × (List TWrite)) (fun y2 => [(1, .int .i64 y2.1)]) (fun y2 => [some ⟨fl (enc_TWrite true) y2.2, 2⟩]) (fun y => y8 = y) (fun _ _ _ _ g h => RW.gh g h) ?_ ?_
 ·refine RW.blk ?_
  refine RW.iter (σ := Int × Int × (List TWrite)) ey8 (fun s1 => [(0, .sl 0 0 s1.2.2.length), (1, .int .i64 s1.1), (5, .int .i64 s1.2.1)]) (fun s1 => [some ⟨fl (enc_TWrite true) s1.2.2, 2⟩]) (Gh.renN [0] (.same rfl (ek_TWrite.fref _ _) .nil) rfl rfl rfl (.cons rfl (.slq rfl rfl) (.cons rfl (.dat .int) (.cons rfl (.dat .int) .nil)))) (fun s1 B o hS1 hB1 hE1 => ?_)
  unfold S_laws_markWriteS_w_1 at hS1
  refine RW.seq (RW.sreg (rl.run 3 rfl ?_))
  refine rl.gen rfl rfl fun b hb => ?_
  cases b
  ·have h3 := iteBF hS1 hb
   refine rl.done (RW.cond_f rfl (RW.exit (blkA_eq ?_)))
   cases h3
   exact ⟨_, (hE1 _ rfl).symm, (Gh.renN [0] (.same rfl (ek_TWrite.fref _ _) .nil) rfl rfl rfl (.cons rfl (.dat .int) .nil))⟩
  ·have h4 := iteBT hS1 hb
   refine rl.done (RW.cond_t rfl (RW.skip (RW.seq (RW.blk (RW.sreg (rl.run 3 rfl ?_))))))
   obtain ⟨v3, e3, h5⟩ := bindS h4
   refine rl.op (x_ia_sl rfl rfl rfl rfl e3) ?_
   refine rl.run 1 rfl ?_
   obtain ⟨v4, e4, h6⟩ := bindS h5
   refine rl.op0 (x_st_sl' (off' := 0) (o := true) (e' := ({ At := s1.1, Text := v3.Text } : TWrite)) ek_TWrite e3 rfl rfl rfl rfl rfl rfl rfl rfl rfl e4) ?_
   refine rl.done (RW.sreg (rl.run 3 rfl (rl.done ?_)))
   refine RW.keep [0, 1, 5] (a' := [(0, .sl 0 0 s1.2.2.length), (1, .int .i64 (w64 (s1.1 + 1))), (5, .int .i64 s1.2.1)]) (H' := [some ⟨fl (enc_TWrite true) v4, 2⟩]) rfl rfl ?_
   refine RW.sreg (rl.run 3 rfl ?_)
   obtain ⟨v5, e5, h7⟩ := bindS h6
   refine rl.call rfl rfl rfl (CallW.val (r' := .str v5) ok_laws_markText (law_laws_markText e5) (.cons .int .nil) .refl ?_)
   obtain ⟨v6, e6, h8⟩ := bindS h7
   refine rl.op (x_ia_sl rfl rfl rfl (set'_len e4) e6) ?_
   refine rl.run 1 rfl ?_
   obtain ⟨v7, e7, h9⟩ := bindS h8
   refine rl.op0 (x_st_sl' (off' := 1) (o := true) (e' := ({ At := v6.At, Text := v5 } : TWrite)) ek_TWrite e6 rfl rfl rfl rfl rfl rfl rfl rfl rfl e7) ?_
   refine rl.done (RW.reg (rl.run 3 rfl (rl.done (RW.reg (rl.run 3 rfl (rl.done ?_))))))
   cases h9
   exact hB1 _ rfl _ _ (Gh.renN [0] (.same rfl (ek_TWrite.fref _ _) .nil) rfl rfl rfl (.cons rfl (.slq rfl ((set'_len e4).trans (set'_len e7))) (.cons rfl (.dat .int) (.cons rfl (.dat .int) .nil))))
 ·intro y2 hC
  subst hC
  refine RW.sreg (rl.run 2 rfl (rl.done (RW.ret ?_)))
  cases h2
  exact RRetS.mk rfl .int (Gh.renN [0] (.same rfl (ek_TWrite.fref _ _) .nil) rfl rfl rfl .nil)
theorem law_laws_markDisk_w {x0 : List (List UInt8)} {x1 : List TWrite} {x2 : Int} {r : Int × (List (List UInt8)) × (List TWrite)} (hF : F_laws_markDisk_w x0 x1 x2 = some r) : ACalls Try.prog 0 45 [.agg [.sl 0 0 x0.length, .sl 1 0 x1.length], .int .i64 x2] [some ⟨fl (encS true) x0, 1⟩, some ⟨fl (enc_TWrite true) x1, 2⟩] (.int .i64 r.1) [some ⟨fl (encS true) r.2.1, 1⟩, some ⟨fl (enc_TWrite true) r.2.2, 2⟩] := by
 refine ACalls.of_s k_laws_markDisk rfl ?_
 unfold F_laws_markDisk_w at hF
 refine RW.sreg (rl.run 2 rfl (rl.done (RW.sreg (rl.run 3 rfl ?_))))
 obtain ⟨v1, e1, h1⟩ := bindS hF
 refine rl.call rfl rfl rfl (CallW.embW (r0 := .int .i64 v1.1) (H' := [some ⟨fl (encS true) v1.2, 1⟩, some ⟨fl (enc_TWrite true) x1, 2⟩, some ⟨[.sl 0 0 x0.length, .sl 1 0 x1.length], 0⟩]) [⟨fl (encS true) x0, 1⟩] [⟨fl (encS true) v1.2, 1⟩] [0] ok_laws_markStringS (law_laws_markStringS_w (guardO_s e1)) (.cons rfl (ekS.fref _ _) (ekS.fown _) .nil) rfl (.cons (.slq rfl rfl) (.cons (.dat .int) .nil)) .int rfl rfl ?_)
 refine rl.run 1 rfl (rl.done (RW.sreg (rl.run 3 rfl ?_)))
 obtain ⟨v2, e2, h2⟩ := bindS h1
 refine rl.call rfl rfl rfl (CallW.embW (r0 := .int .i64 v2.1) (H' := [some ⟨fl (encS true) v1.2, 1⟩, some ⟨fl (enc_TWrite true) v2.2, 2⟩, some ⟨[.sl 0 0 x0.length, .sl 1 0 x1.length], 0⟩]) [⟨fl (enc_TWrite true) x1, 2⟩] [⟨fl (enc_TWrite true) v2.2, 2⟩] [1] ok_laws_markWriteS (law_laws_markWriteS_w (guardO_s e2)) (.cons rfl (ek_TWrite.fref _ _) (ek_TWrite.fown _) .nil) rfl (.cons (.slq rfl rfl) (.cons (.dat .int) .nil)) .int rfl rfl ?_)
 refine rl.run 1 rfl (rl.done ?_)
 refine RW.keep [1] (a' := [(1, .int .i64 v2.1)]) (H' := [some ⟨fl (encS true) v1.2, 1⟩, some ⟨fl (enc_TWrite true) v2.2, 2⟩, some ⟨[.sl 0 0 x0.length, .sl 1 0 x1.length], 0⟩]) rfl rfl ?_
 refine RW.sreg (rl.run 2 rfl (rl.done (RW.ret ?_)))
 cases h2
 exact RRetS.mk rfl .int (Gh.renN [0, 1] (.same rfl (ekS.fref _ _) (.same rfl (ek_TWrite.fref _ _) .nil)) rfl rfl rfl .nil)
set_option maxHeartbeats 2000000 in
theorem law_laws_FnExactNewestCheck {x0 : TDisk} {r : Bool} (hF : F_laws_FnExactNewestCheck x0 = some r) : PCalls Try.prog 8 [.agg (enc_TDisk false x0)] (.bool r) := by
 refine PCalls.of_r k_laws_FnExactNewestCheck rfl ?_
 unfold F_laws_FnExactNewestCheck at hF
 refine RW.sreg (rl.run 2 rfl (rl.done (RW.sreg (rl.run 1 rfl (rl.done (RW.sreg (rl.run 2 rfl ?_)))))))
 obtain ⟨v1, e1, h1⟩ := bindS hF
 refine rl.call rfl rfl rfl (CallW.val (r' := .int .i64 v1) ok_laws_szDisk (law_laws_szDisk e1) (.cons (DFL.agg (.cons (.lst ekS) (.cons (.lst ek_TWrite) .nil))) (.cons .int .nil)) .refl ?_)
 refine rl.run 1 rfl (rl.done (RW.seq (RW.sreg (rl.run 1 rfl ?_))))
 refine rl.gen rfl rfl fun b hb => ?_
 cases b
 ·have h2 := iteBF h1 hb
  refine rl.done (RW.cond_f rfl (RW.skip (RW.sreg (rl.run 1 rfl ?_))))
  obtain ⟨v2, e2, h3⟩ := bindS h2
  refine rl.call rfl rfl rfl (CallW.val (r' := .agg (enc_TDisk false v2)) ok_laws_toDisk (law_laws_toDisk e2) (.cons (DFL.agg (.cons (.lst ekS) (.cons (.lst ek_TWrite) .nil))) .nil) (ek_TDisk.flag _).agg ?_)
  obtain ⟨v3, e3, h4⟩ := bindS h3
  refine rl.call rfl rfl rfl (CallW.val (r' := .tup [.agg (enc_TCheck false v3.1), .bool v3.2]) ok_spec_NewestCheck (law_spec_NewestCheck e3) (.cons (.dat (.agg (ek_TDisk.dat false _))) .nil) (FlL.tup (.cons (ek_TCheck.flag _).agg (.cons .refl .nil))) ?_)
  refine rl.run 6 rfl (rl.done ?_)
  refine RW.keep [1, 4, 5] (a' := [(1, .ptr 0 0), (4, .ptr 1 0), (5, .bool v3.2)]) (H' := [some ⟨[.lst false 1 (fl (encS false) x0.Sectors) x0.Sectors.length, .lst false 2 (fl (enc_TWrite false) x0.Cache) x0.Cache.length], 0⟩, some ⟨[.int .i64 v3.1.Stamp, .int .i64 v3.1.NextGen, .int .i64 v3.1.NextSeq, .int .i64 v3.1.NextValid, .lst false 2 (fl (enc_TRef false) v3.1.Refs) v3.1.Refs.length], 0⟩]) rfl rfl ?_
  refine RW.sreg (rl.run 1 rfl ?_)
  obtain ⟨v4, e4, h5⟩ := bindS h4
  refine rl.call rfl rfl rfl (CallW.own (r' := .agg [.sl 2 0 v4.Sectors.length, .sl 3 0 v4.Cache.length]) (H' := [some ⟨[.lst false 1 (fl (encS false) x0.Sectors) x0.Sectors.length, .lst false 2 (fl (enc_TWrite false) x0.Cache) x0.Cache.length], 0⟩, some ⟨[.int .i64 v3.1.Stamp, .int .i64 v3.1.NextGen, .int .i64 v3.1.NextSeq, .int .i64 v3.1.NextValid, .lst false 2 (fl (enc_TRef false) v3.1.Refs) v3.1.Refs.length], 0⟩, some ⟨fl (encS true) v4.Sectors, 1⟩, some ⟨fl (enc_TWrite true) v4.Cache, 2⟩]) ok_laws_toDisk (law_laws_toDisk e4) (.cons (DFL.agg (.cons (.lst ekS) (.cons (.lst ek_TWrite) .nil))) .nil) (ek_TDisk.own _) rfl ?_)
  refine rl.run 2 rfl (rl.done (RW.sreg (rl.run 1 rfl ?_)))
  obtain ⟨v5, e5, h6⟩ := bindS h5
  refine rl.call rfl rfl rfl (CallW.own (r' := .tup [.agg [.int .i64 v5.1.Stamp, .int .i64 v5.1.NextGen, .int .i64 v5.1.NextSeq, .int .i64 v5.1.NextValid, .sl 5 0 v5.1.Refs.length], .bool v5.2]) (H' := [some ⟨[.lst false 1 (fl (encS false) x0.Sectors) x0.Sectors.length, .lst false 2 (fl (enc_TWrite false) x0.Cache) x0.Cache.length], 0⟩, some ⟨[.int .i64 v3.1.Stamp, .int .i64 v3.1.NextGen, .int .i64 v3.1.NextSeq, .int .i64 v3.1.NextValid, .lst false 2 (fl (enc_TRef false) v3.1.Refs) v3.1.Refs.length], 0⟩, some ⟨fl (encS true) v4.Sectors, 1⟩, some ⟨fl (enc_TWrite true) v4.Cache, 2⟩, some ⟨[.sl 2 0 v4.Sectors.length, .sl 3 0 v4.Cache.length], 0⟩, some ⟨fl (enc_TRef true) v5.1.Refs, 2⟩]) ok_impl_NewestCheck (law_impl_NewestCheck e5) (.cons (DFL.agg (.cons (.slq ekS rfl rfl) (.cons (.slq ek_TWrite rfl rfl) .nil))) .nil) (fac (ek_TCheck.own _) (fac .bool fan)) rfl ?_)
  refine rl.run 6 rfl (rl.done (RW.seq (RW.seq ?_)))
  obtain ⟨y6, ey6, h7⟩ := bindS h6
  refine RW.cutq (σ := Bool) (fun y6 => [(1, .ptr 0 0), (4, .ptr 1 0), (5, .bool v3.2), (6, .ptr 2 0), (7, .ptr 3 0), (8, .bool v5.2), (40, .bool y6)]) (fun y6 => [some ⟨[.lst false 1 (fl (encS false) x0.Sectors) x0.Sectors.length, .lst false 2 (fl (enc_TWrite false) x0.Cache) x0.Cache.length], 0⟩, some ⟨[.int .i64 v3.1.Stamp, .int .i64 v3.1.NextGen, .int .i64 v3.1.NextSeq, .int .i64 v3.1.NextValid, .lst false 2 (fl (enc_TRef false) v3.1.Refs) v3.1.Refs.length], 0⟩, some ⟨[.sl 4 0 v4.Sectors.length, .sl 5 0 v4.Cache.length], 0⟩, some ⟨[.int .i64 v5.1.Stamp, .int .i64 v5.1.NextGen, .int .i64 v5.1.NextSeq, .int .i64 v5.1.NextValid, .sl 6 0 v5.1.Refs.length], 0⟩, some ⟨fl (encS true) v4.Sectors, 1⟩, some ⟨fl (enc_TWrite true) v4.Cache, 2⟩, some ⟨fl (enc_TRef true) v5.1.Refs, 2⟩]) (fun y => y6 = y) (fun _ _ _ _ g h => RW.gh g h) ?_ ?_
  ·refine RW.reg ?_
   refine rl.run 2 rfl ?_
   obtain ⟨v7, e7, h8⟩ := bindS ey6
   refine rl.call rfl rfl rfl (CallW.val (r' := .bool v7) ok_laws_eqCheck (law_laws_eqCheck e7) (.cons (DFL.agg (.cons .int (.cons .int (.cons .int (.cons .int (.cons (.slq ek_TRef rfl rfl) .nil)))))) (.cons (DFL.agg (.cons .int (.cons .int (.cons .int (.cons .int (.cons (.lst ek_TRef) .nil)))))) .nil)) .refl ?_)
   cases hb : v7
   ·have h9 := iteBF h8 hb
    refine rl.run 6 rfl (rl.done ?_)
    cases h9
    exact ⟨_, rfl, (Gh.ren0 [0, 1, 4, 6, 2, 3, 5] (.cells rfl rfl (.keep (ekS.rlst) (.keep (ek_TWrite.rlst) .nil)) (.cells rfl rfl (.keep .int (.keep .int (.keep .int (.keep .int (.keep (ek_TRef.rlst) .nil))))) (.cells rfl rfl (.slq rfl rfl (.slq rfl rfl .nil)) (.cells rfl rfl (.keep .int (.keep .int (.keep .int (.keep .int (.slq rfl rfl .nil))))) (.same rfl (ekS.fref _ _) (.same rfl (ek_TWrite.fref _ _) (.same rfl (ek_TRef.fref _ _) .nil))))))) rfl (.cons rfl (.ptr rfl) (.cons rfl (.ptr rfl) (.cons rfl (.dat .bool) (.cons rfl (.ptr rfl) (.cons rfl (.ptr rfl) (.cons rfl (.dat .bool) (.cons rfl (.dat .bool) .nil))))))))⟩
   ·have h10 := iteBT h8 hb
    refine rl.run 4 rfl ?_
    refine rl.gen rfl rfl fun b hb => ?_
    cases b
    ·have h11 := iteBF h10 hb
     refine rl.run 1 rfl (rl.done ?_)
     cases h11
     exact ⟨_, rfl, (Gh.ren0 [0, 1, 4, 6, 2, 3, 5] (.cells rfl rfl (.keep (ekS.rlst) (.keep (ek_TWrite.rlst) .nil)) (.cells rfl rfl (.keep .int (.keep .int (.keep .int (.keep .int (.keep (ek_TRef.rlst) .nil))))) (.cells rfl rfl (.slq rfl rfl (.slq rfl rfl .nil)) (.cells rfl rfl (.keep .int (.keep .int (.keep .int (.keep .int (.slq rfl rfl .nil))))) (.same rfl (ekS.fref _ _) (.same rfl (ek_TWrite.fref _ _) (.same rfl (ek_TRef.fref _ _) .nil))))))) rfl (.cons rfl (.ptr rfl) (.cons rfl (.ptr rfl) (.cons rfl (.dat .bool) (.cons rfl (.ptr rfl) (.cons rfl (.ptr rfl) (.cons rfl (.dat .bool) (.cons rfl (.dat .bool) .nil))))))))⟩
    ·have h12 := iteBT h10 hb
     refine rl.run 1 rfl (rl.done ?_)
     cases h12
     exact ⟨_, rfl, (Gh.ren0 [0, 1, 4, 6, 2, 3, 5] (.cells rfl rfl (.keep (ekS.rlst) (.keep (ek_TWrite.rlst) .nil)) (.cells rfl rfl (.keep .int (.keep .int (.keep .int (.keep .int (.keep (ek_TRef.rlst) .nil))))) (.cells rfl rfl (.slq rfl rfl (.slq rfl rfl .nil)) (.cells rfl rfl (.keep .int (.keep .int (.keep .int (.keep .int (.slq rfl rfl .nil))))) (.same rfl (ekS.fref _ _) (.same rfl (ek_TWrite.fref _ _) (.same rfl (ek_TRef.fref _ _) .nil))))))) rfl (.cons rfl (.ptr rfl) (.cons rfl (.ptr rfl) (.cons rfl (.dat .bool) (.cons rfl (.ptr rfl) (.cons rfl (.ptr rfl) (.cons rfl (.dat .bool) (.cons rfl (.dat .bool) .nil))))))))⟩
  ·intro y hC
   subst hC
   cases hb : y6
   ·have h13 := iteBF h7 hb
    refine RW.cond_f rfl (RW.skip (RW.seq (RW.sdrw (rdraw.op rfl rfl (rdraw.op rfl rfl ?_)))))
    obtain ⟨v8, e8, h14⟩ := bindS h13
    refine rdraw.call rfl rfl rfl (CallW.val (r' := .agg (enc_TDisk false v8)) ok_laws_toDisk (law_laws_toDisk e8) (.cons (DFL.agg (.cons (.lst ekS) (.cons (.lst ek_TWrite) .nil))) .nil) (ek_TDisk.flag _).agg ⟨rfl, ?_⟩)
    obtain ⟨v9, e9, h15⟩ := bindS h14
    refine rdraw.call rfl rfl rfl (CallW.val (r' := .bool v9) ok_laws_eqDisk (law_laws_eqDisk e9) (.cons (DFL.agg (.cons (.slq ekS rfl rfl) (.cons (.slq ek_TWrite rfl rfl) .nil))) (.cons (.dat (.agg (ek_TDisk.dat false _))) .nil)) .refl ⟨rfl, ?_⟩)
    cases hb : v9
    ·have h16 := iteBF h15 hb
     refine rdraw.op rfl rfl (rdraw.done (RW.cond_t rfl (RW.sreg (rl.run 1 rfl (rl.done ?_)))))
     refine RW.keep [2] (a' := [(2, .bool false)]) (H' := [some ⟨[.lst false 1 (fl (encS false) x0.Sectors) x0.Sectors.length, .lst false 2 (fl (enc_TWrite false) x0.Cache) x0.Cache.length], 0⟩, some ⟨[.int .i64 v3.1.Stamp, .int .i64 v3.1.NextGen, .int .i64 v3.1.NextSeq, .int .i64 v3.1.NextValid, .lst false 2 (fl (enc_TRef false) v3.1.Refs) v3.1.Refs.length], 0⟩, some ⟨[.sl 4 0 v4.Sectors.length, .sl 5 0 v4.Cache.length], 0⟩, some ⟨[.int .i64 v5.1.Stamp, .int .i64 v5.1.NextGen, .int .i64 v5.1.NextSeq, .int .i64 v5.1.NextValid, .sl 6 0 v5.1.Refs.length], 0⟩, some ⟨fl (encS true) v4.Sectors, 1⟩, some ⟨fl (enc_TWrite true) v4.Cache, 2⟩, some ⟨fl (enc_TRef true) v5.1.Refs, 2⟩]) rfl rfl ?_
     refine RW.ret ?_
     cases h16
     exact RRet.mk rfl .bool (by first | decide | simp)
    ·have h17 := iteBT h15 hb
     refine rdraw.op rfl rfl (rdraw.done (RW.cond_f rfl (RW.skip (RW.sreg (rl.run 1 rfl (rl.done (RW.sreg (rl.run 2 rfl ?_))))))))
     obtain ⟨v10, e10, h18⟩ := bindS h17
     refine rl.call rfl rfl rfl (CallW.embW (r0 := .int .i64 v10.1) (H' := [some ⟨[.lst false 1 (fl (encS false) x0.Sectors) x0.Sectors.length, .lst false 2 (fl (enc_TWrite false) x0.Cache) x0.Cache.length], 0⟩, some ⟨[.int .i64 v3.1.Stamp, .int .i64 v3.1.NextGen, .int .i64 v3.1.NextSeq, .int .i64 v3.1.NextValid, .lst false 2 (fl (enc_TRef false) v3.1.Refs) v3.1.Refs.length], 0⟩, some ⟨[.sl 4 0 v4.Sectors.length, .sl 5 0 v4.Cache.length], 0⟩, some ⟨[.int .i64 v5.1.Stamp, .int .i64 v5.1.NextGen, .int .i64 v5.1.NextSeq, .int .i64 v5.1.NextValid, .sl 6 0 v5.1.Refs.length], 0⟩, some ⟨fl (encS true) v10.2.1, 1⟩, some ⟨fl (enc_TWrite true) v10.2.2, 2⟩, some ⟨fl (enc_TRef true) v5.1.Refs, 2⟩]) [⟨fl (encS true) v4.Sectors, 1⟩, ⟨fl (enc_TWrite true) v4.Cache, 2⟩] [⟨fl (encS true) v10.2.1, 1⟩, ⟨fl (enc_TWrite true) v10.2.2, 2⟩] [4, 5] ok_laws_markDisk (law_laws_markDisk_w (guardO_s e10)) (.cons rfl (ekS.fref _ _) (ekS.fown _) (.cons rfl (ek_TWrite.fref _ _) (ek_TWrite.fown _) .nil)) rfl (.cons (RnL.agg (.cons (.slq rfl rfl) (.cons (.slq rfl rfl) .nil))) (.cons (.dat .int) .nil)) .int rfl rfl ?_)
     refine rl.run 1 rfl (rl.done (RW.seq (RW.seq ?_)))
     obtain ⟨y11, ey11, h19⟩ := bindS h18
     refine RW.cutq (σ := Bool) (fun y11 => [(1, .ptr 0 0), (4, .ptr 1 0), (5, .bool v3.2), (7, .ptr 2 0), (61, .bool y11)]) (fun y11 => [some ⟨[.lst false 1 (fl (encS false) x0.Sectors) x0.Sectors.length, .lst false 2 (fl (enc_TWrite false) x0.Cache) x0.Cache.length], 0⟩, some ⟨[.int .i64 v3.1.Stamp, .int .i64 v3.1.NextGen, .int .i64 v3.1.NextSeq, .int .i64 v3.1.NextValid, .lst false 2 (fl (enc_TRef false) v3.1.Refs) v3.1.Refs.length], 0⟩, some ⟨[.int .i64 v5.1.Stamp, .int .i64 v5.1.NextGen, .int .i64 v5.1.NextSeq, .int .i64 v5.1.NextValid, .sl 3 0 v5.1.Refs.length], 0⟩, some ⟨fl (enc_TRef true) v5.1.Refs, 2⟩]) (fun y => y11 = y) (fun _ _ _ _ g h => RW.gh g h) ?_ ?_
     ·refine RW.reg ?_
      refine rl.run 1 rfl ?_
      refine rl.gen rfl rfl fun b hb => ?_
      cases b
      ·have h20 := iteBF ey11 hb
       refine rl.run 3 rfl ?_
       obtain ⟨v12, e12, h21⟩ := bindS h20
       refine rl.call rfl rfl rfl (CallW.val (r' := .bool v12) ok_laws_eqCheck (law_laws_eqCheck e12) (.cons (DFL.agg (.cons .int (.cons .int (.cons .int (.cons .int (.cons (.slq ek_TRef rfl rfl) .nil)))))) (.cons (DFL.agg (.cons .int (.cons .int (.cons .int (.cons .int (.cons (.lst ek_TRef) .nil)))))) .nil)) .refl ?_)
       cases hb : v12
       ·have h22 := iteBF h21 hb
        refine rl.run 7 rfl (rl.done ?_)
        cases h22
        exact ⟨_, rfl, (Gh.ren0 [0, 1, 3, 6] (.cells rfl rfl (.keep (ekS.rlst) (.keep (ek_TWrite.rlst) .nil)) (.cells rfl rfl (.keep .int (.keep .int (.keep .int (.keep .int (.keep (ek_TRef.rlst) .nil))))) (.cells rfl rfl (.keep .int (.keep .int (.keep .int (.keep .int (.slq rfl rfl .nil))))) (.same rfl (ek_TRef.fref _ _) .nil)))) rfl (.cons rfl (.ptr rfl) (.cons rfl (.ptr rfl) (.cons rfl (.dat .bool) (.cons rfl (.ptr rfl) (.cons rfl (.dat .bool) .nil))))))⟩
       ·have h23 := iteBT h21 hb
        refine rl.run 5 rfl ?_
        refine rl.gen rfl rfl fun b hb => ?_
        cases b
        ·have h24 := iteBF h23 hb
         refine rl.run 1 rfl (rl.done ?_)
         cases h24
         exact ⟨_, rfl, (Gh.ren0 [0, 1, 3, 6] (.cells rfl rfl (.keep (ekS.rlst) (.keep (ek_TWrite.rlst) .nil)) (.cells rfl rfl (.keep .int (.keep .int (.keep .int (.keep .int (.keep (ek_TRef.rlst) .nil))))) (.cells rfl rfl (.keep .int (.keep .int (.keep .int (.keep .int (.slq rfl rfl .nil))))) (.same rfl (ek_TRef.fref _ _) .nil)))) rfl (.cons rfl (.ptr rfl) (.cons rfl (.ptr rfl) (.cons rfl (.dat .bool) (.cons rfl (.ptr rfl) (.cons rfl (.dat .bool) .nil))))))⟩
        ·have h25 := iteBT h23 hb
         refine rl.run 1 rfl (rl.done ?_)
         cases h25
         exact ⟨_, rfl, (Gh.ren0 [0, 1, 3, 6] (.cells rfl rfl (.keep (ekS.rlst) (.keep (ek_TWrite.rlst) .nil)) (.cells rfl rfl (.keep .int (.keep .int (.keep .int (.keep .int (.keep (ek_TRef.rlst) .nil))))) (.cells rfl rfl (.keep .int (.keep .int (.keep .int (.keep .int (.slq rfl rfl .nil))))) (.same rfl (ek_TRef.fref _ _) .nil)))) rfl (.cons rfl (.ptr rfl) (.cons rfl (.ptr rfl) (.cons rfl (.dat .bool) (.cons rfl (.ptr rfl) (.cons rfl (.dat .bool) .nil))))))⟩
      ·have h26 := iteBT ey11 hb
       refine rl.run 11 rfl (rl.done ?_)
       cases h26
       exact ⟨_, rfl, (Gh.ren0 [0, 1, 3, 6] (.cells rfl rfl (.keep (ekS.rlst) (.keep (ek_TWrite.rlst) .nil)) (.cells rfl rfl (.keep .int (.keep .int (.keep .int (.keep .int (.keep (ek_TRef.rlst) .nil))))) (.cells rfl rfl (.keep .int (.keep .int (.keep .int (.keep .int (.slq rfl rfl .nil))))) (.same rfl (ek_TRef.fref _ _) .nil)))) rfl (.cons rfl (.ptr rfl) (.cons rfl (.ptr rfl) (.cons rfl (.dat .bool) (.cons rfl (.ptr rfl) (.cons rfl (.dat .bool) .nil))))))⟩
     ·intro y hC
      subst hC
      cases hb : y11
      ·have h27 := iteBF h19 hb
       refine RW.cond_f rfl (RW.skip (RW.sreg (rl.run 1 rfl (rl.done (RW.sreg (rl.run 2 rfl ?_))))))
       obtain ⟨v13, e13, h28⟩ := bindS h27
       refine rl.call rfl rfl rfl (CallW.embW (r0 := .int .i64 v13.1) (H' := [some ⟨[.lst false 1 (fl (encS false) x0.Sectors) x0.Sectors.length, .lst false 2 (fl (enc_TWrite false) x0.Cache) x0.Cache.length], 0⟩, some ⟨[.int .i64 v3.1.Stamp, .int .i64 v3.1.NextGen, .int .i64 v3.1.NextSeq, .int .i64 v3.1.NextValid, .lst false 2 (fl (enc_TRef false) v3.1.Refs) v3.1.Refs.length], 0⟩, some ⟨[.int .i64 v5.1.Stamp, .int .i64 v5.1.NextGen, .int .i64 v5.1.NextSeq, .int .i64 v5.1.NextValid, .sl 3 0 v5.1.Refs.length], 0⟩, some ⟨fl (enc_TRef true) v13.2, 2⟩]) [⟨fl (enc_TRef true) v5.1.Refs, 2⟩] [⟨fl (enc_TRef true) v13.2, 2⟩] [3] ok_laws_markCheck (law_laws_markCheck_w (guardO_s e13)) (.cons rfl (ek_TRef.fref _ _) (ek_TRef.fown _) .nil) rfl (.cons (RnL.agg (.cons (.dat .int) (.cons (.dat .int) (.cons (.dat .int) (.cons (.dat .int) (.cons (.slq rfl rfl) .nil)))))) (.cons (.dat .int) .nil)) .int rfl rfl ?_)
       refine rl.run 1 rfl (rl.done (RW.sreg (rl.run 1 rfl (rl.done (RW.sreg (rl.run 2 rfl ?_))))))
       obtain ⟨v14, e14, h29⟩ := bindS h28
       refine rl.call rfl rfl rfl (CallW.val (r' := .int .i64 v14) ok_laws_heldCheck (law_laws_heldCheck e14) (.cons (DFL.agg (.cons .int (.cons .int (.cons .int (.cons .int (.cons (.slq ek_TRef rfl (guardO_p (p := fun r : Int × (List TRef) => v5.1.Refs.length = r.2.length) e13)) .nil)))))) (.cons .int .nil)) .refl ?_)
       refine rl.run 1 rfl (rl.done (RW.seq (RW.sreg (rl.run 1 rfl ?_))))
       refine rl.gen rfl rfl fun b hb => ?_
       cases b
       ·have h30 := iteBF h29 hb
        refine rl.done (RW.cond_f rfl (RW.skip (RW.seq (RW.sreg (rl.run 2 rfl ?_)))))
        refine rl.gen rfl rfl fun b hb => ?_
        cases b
        ·have h31 := iteBF h30 hb
         refine rl.done ?_
         refine RW.keep [1, 4, 5, 7, 10, 72] (a' := [(1, .ptr 0 0), (4, .ptr 1 0), (5, .bool v3.2), (7, .ptr 2 0), (10, .int .i64 v13.1), (72, .bool false)]) (H' := [some ⟨[.lst false 1 (fl (encS false) x0.Sectors) x0.Sectors.length, .lst false 2 (fl (enc_TWrite false) x0.Cache) x0.Cache.length], 0⟩, some ⟨[.int .i64 v3.1.Stamp, .int .i64 v3.1.NextGen, .int .i64 v3.1.NextSeq, .int .i64 v3.1.NextValid, .lst false 2 (fl (enc_TRef false) v3.1.Refs) v3.1.Refs.length], 0⟩, some ⟨[.int .i64 v5.1.Stamp, .int .i64 v5.1.NextGen, .int .i64 v5.1.NextSeq, .int .i64 v5.1.NextValid, .sl 3 0 v5.1.Refs.length], 0⟩, some ⟨fl (enc_TRef true) v13.2, 2⟩]) rfl rfl ?_
         refine RW.cond_f rfl (RW.skip (RW.sreg (rl.run 1 rfl ?_)))
         obtain ⟨v15, e15, h32⟩ := bindS h31
         refine rl.call rfl rfl rfl (CallW.val (r' := .agg (enc_TDisk false v15)) ok_laws_toDisk (law_laws_toDisk e15) (.cons (DFL.agg (.cons (.lst ekS) (.cons (.lst ek_TWrite) .nil))) .nil) (ek_TDisk.flag _).agg ?_)
         obtain ⟨v16, e16, h33⟩ := bindS h32
         refine rl.call rfl rfl rfl (CallW.val (r' := .tup [.agg (enc_TCheck false v16.1), .bool v16.2]) ok_impl_NewestCheck (law_impl_NewestCheck e16) (.cons (.dat (.agg (ek_TDisk.dat false _))) .nil) (FlL.tup (.cons (ek_TCheck.flag _).agg (.cons .refl .nil))) ?_)
         refine rl.run 6 rfl (rl.done (RW.seq (RW.seq ?_)))
         obtain ⟨y17, ey17, h34⟩ := bindS h33
         refine RW.cutq (σ := Bool) (fun y17 => [(7, .ptr 0 0), (10, .int .i64 v13.1), (87, .bool y17)]) (fun y17 => [some ⟨[.int .i64 v5.1.Stamp, .int .i64 v5.1.NextGen, .int .i64 v5.1.NextSeq, .int .i64 v5.1.NextValid, .sl 1 0 v13.2.length], 0⟩, some ⟨fl (enc_TRef true) v13.2, 2⟩]) (fun y => y17 = y) (fun _ _ _ _ g h => RW.gh g h) ?_ ?_
         ·refine RW.reg ?_
          refine rl.run 2 rfl ?_
          obtain ⟨v18, e18, h35⟩ := bindS ey17
          refine rl.call rfl rfl rfl (CallW.val (r' := .bool v18) ok_laws_eqCheck (law_laws_eqCheck e18) (.cons (DFL.agg (.cons .int (.cons .int (.cons .int (.cons .int (.cons (.lst ek_TRef) .nil)))))) (.cons (DFL.agg (.cons .int (.cons .int (.cons .int (.cons .int (.cons (.lst ek_TRef) .nil)))))) .nil)) .refl ?_)
          cases hb : v18
          ·have h36 := iteBF h35 hb
           refine rl.run 6 rfl (rl.done ?_)
           cases h36
           exact ⟨_, rfl, (Gh.ren0 [2, 3] (.cells rfl rfl (.keep .int (.keep .int (.keep .int (.keep .int (.slq rfl (guardO_p (p := fun r : Int × (List TRef) => v5.1.Refs.length = r.2.length) e13) .nil))))) (.same rfl (ek_TRef.fref _ _) .nil)) rfl (.cons rfl (.ptr rfl) (.cons rfl (.dat .int) (.cons rfl (.dat .bool) .nil))))⟩
          ·have h37 := iteBT h35 hb
           refine rl.run 4 rfl ?_
           refine rl.gen rfl rfl fun b hb => ?_
           cases b
           ·have h38 := iteBF h37 hb
            refine rl.run 1 rfl (rl.done ?_)
            cases h38
            exact ⟨_, rfl, (Gh.ren0 [2, 3] (.cells rfl rfl (.keep .int (.keep .int (.keep .int (.keep .int (.slq rfl (guardO_p (p := fun r : Int × (List TRef) => v5.1.Refs.length = r.2.length) e13) .nil))))) (.same rfl (ek_TRef.fref _ _) .nil)) rfl (.cons rfl (.ptr rfl) (.cons rfl (.dat .int) (.cons rfl (.dat .bool) .nil))))⟩
           ·have h39 := iteBT h37 hb
            refine rl.run 1 rfl (rl.done ?_)
            cases h39
            exact ⟨_, rfl, (Gh.ren0 [2, 3] (.cells rfl rfl (.keep .int (.keep .int (.keep .int (.keep .int (.slq rfl (guardO_p (p := fun r : Int × (List TRef) => v5.1.Refs.length = r.2.length) e13) .nil))))) (.same rfl (ek_TRef.fref _ _) .nil)) rfl (.cons rfl (.ptr rfl) (.cons rfl (.dat .int) (.cons rfl (.dat .bool) .nil))))⟩
         ·intro y hC
          subst hC
          cases hb : y17
          ·have h40 := iteBF h34 hb
           refine RW.cond_f rfl (RW.skip (RW.sreg (rl.run 1 rfl (rl.done (RW.sreg (rl.run 2 rfl ?_))))))
           obtain ⟨v19, e19, h41⟩ := bindS h40
           refine rl.call rfl rfl rfl (CallW.val (r' := .int .i64 v19) ok_laws_heldCheck (law_laws_heldCheck e19) (.cons (DFL.agg (.cons .int (.cons .int (.cons .int (.cons .int (.cons (.slq ek_TRef rfl rfl) .nil)))))) (.cons .int .nil)) .refl ?_)
           refine rl.run 1 rfl (rl.done (RW.seq (RW.sreg (rl.run 1 rfl ?_))))
           refine rl.gen rfl rfl fun b hb => ?_
           cases b
           ·have h42 := iteBF h41 hb
            refine rl.done (RW.cond_f rfl (RW.skip (RW.seq (RW.sreg (rl.run 2 rfl ?_)))))
            refine rl.gen rfl rfl fun b hb => ?_
            cases b
            ·have h43 := iteBF h42 hb
             refine rl.done ?_
             refine RW.keep [95] (a' := [(95, .bool false)]) (H' := [some ⟨[.int .i64 v5.1.Stamp, .int .i64 v5.1.NextGen, .int .i64 v5.1.NextSeq, .int .i64 v5.1.NextValid, .sl 1 0 v13.2.length], 0⟩, some ⟨fl (enc_TRef true) v13.2, 2⟩]) rfl rfl ?_
             refine RW.cond_f rfl (RW.skip (RW.sreg (rl.run 1 rfl (rl.done (RW.ret ?_)))))
             cases h43
             exact RRet.mk rfl .bool (by first | decide | simp)
            ·have h44 := iteBT h42 hb
             refine rl.done ?_
             refine RW.keep [95] (a' := [(95, .bool true)]) (H' := [some ⟨[.int .i64 v5.1.Stamp, .int .i64 v5.1.NextGen, .int .i64 v5.1.NextSeq, .int .i64 v5.1.NextValid, .sl 1 0 v13.2.length], 0⟩, some ⟨fl (enc_TRef true) v13.2, 2⟩]) rfl rfl ?_
             refine RW.cond_t rfl (RW.sreg (rl.run 1 rfl (rl.done (RW.ret ?_))))
             cases h44
             exact RRet.mk rfl .bool (by first | decide | simp)
           ·have h45 := iteBT h41 hb
            refine rl.done (RW.cond_t rfl (RW.sreg (rl.run 1 rfl (rl.done (RW.ret ?_)))))
            cases h45
            exact RRet.mk rfl .bool (by first | decide | simp)
          ·have h46 := iteBT h34 hb
           refine RW.cond_t rfl (RW.sreg (rl.run 1 rfl (rl.done (RW.ret ?_))))
           cases h46
           exact RRet.mk rfl .bool (by first | decide | simp)
        ·have h47 := iteBT h30 hb
         refine rl.done ?_
         refine RW.keep [1, 4, 5, 7, 10, 72] (a' := [(1, .ptr 0 0), (4, .ptr 1 0), (5, .bool v3.2), (7, .ptr 2 0), (10, .int .i64 v13.1), (72, .bool true)]) (H' := [some ⟨[.lst false 1 (fl (encS false) x0.Sectors) x0.Sectors.length, .lst false 2 (fl (enc_TWrite false) x0.Cache) x0.Cache.length], 0⟩, some ⟨[.int .i64 v3.1.Stamp, .int .i64 v3.1.NextGen, .int .i64 v3.1.NextSeq, .int .i64 v3.1.NextValid, .lst false 2 (fl (enc_TRef false) v3.1.Refs) v3.1.Refs.length], 0⟩, some ⟨[.int .i64 v5.1.Stamp, .int .i64 v5.1.NextGen, .int .i64 v5.1.NextSeq, .int .i64 v5.1.NextValid, .sl 3 0 v5.1.Refs.length], 0⟩, some ⟨fl (enc_TRef true) v13.2, 2⟩]) rfl rfl ?_
         refine RW.cond_t rfl (RW.sreg (rl.run 1 rfl (rl.done (RW.ret ?_))))
         cases h47
         exact RRet.mk rfl .bool (by first | decide | simp)
       ·have h48 := iteBT h29 hb
        refine rl.done (RW.cond_t rfl (RW.sreg (rl.run 1 rfl (rl.done ?_))))
        refine RW.keep [2] (a' := [(2, .bool false)]) (H' := [some ⟨[.lst false 1 (fl (encS false) x0.Sectors) x0.Sectors.length, .lst false 2 (fl (enc_TWrite false) x0.Cache) x0.Cache.length], 0⟩, some ⟨[.int .i64 v3.1.Stamp, .int .i64 v3.1.NextGen, .int .i64 v3.1.NextSeq, .int .i64 v3.1.NextValid, .lst false 2 (fl (enc_TRef false) v3.1.Refs) v3.1.Refs.length], 0⟩, some ⟨[.int .i64 v5.1.Stamp, .int .i64 v5.1.NextGen, .int .i64 v5.1.NextSeq, .int .i64 v5.1.NextValid, .sl 3 0 v5.1.Refs.length], 0⟩, some ⟨fl (enc_TRef true) v13.2, 2⟩]) rfl rfl ?_
        refine RW.ret ?_
        cases h48
        exact RRet.mk rfl .bool (by first | decide | simp)
      ·have h49 := iteBT h19 hb
       refine RW.cond_t rfl (RW.sreg (rl.run 1 rfl (rl.done (RW.ret ?_))))
       cases h49
       exact RRet.mk rfl .bool (by first | decide | simp)
   ·have h50 := iteBT h7 hb
    refine RW.cond_t rfl (RW.sreg (rl.run 1 rfl (rl.done (RW.ret ?_))))
    cases h50
    exact RRet.mk rfl .bool (by first | decide | simp)
 ·have h51 := iteBT h1 hb
  refine rl.done (RW.cond_t rfl (RW.sreg (rl.run 1 rfl (rl.done (RW.ret ?_)))))
  cases h51
  exact RRet.mk rfl .bool (by first | decide | simp)
end Go.Proofs.Ytgdcbjoaoagbpaa.V
