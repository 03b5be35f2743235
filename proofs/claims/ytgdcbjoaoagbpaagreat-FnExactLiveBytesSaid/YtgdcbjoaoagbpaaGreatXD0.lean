/- What a call comes to. -/
import Derived.Test.YtgdcbjoaoagbpaaGreatXT
import Derived.Test.YtgdcbjoaoagbpaaGreatXU
namespace Go.Proofs.YtgdcbjoaoagbpaaGreat.V
open Go Go.Proofs Go.RowKit
set_option maxRecDepth 100000
theorem law_laws_eqStringS {x0 : List (List UInt8)} {x1 : List (List UInt8)} {r : Bool} (hF : F_laws_eqStringS x0 x1 = some r) : PCalls Tryz.prog 59 [.lst false 1 (fl (encS false) x0) x0.length, .lst false 1 (fl (encS false) x1) x1.length] (.bool r) := by
 refine PCalls.of_r k_laws_eqStringS rfl ?_
 unfold F_laws_eqStringS at hF
 refine RW.sreg (rl.run 1 rfl (rl.done (RW.seq (RW.sreg (rl.run 4 rfl ?_)))))
 refine rl.gen rfl rfl fun b hb => ?_
 cases b
 ·have h1 := iteBF hF hb
  refine rl.done (RW.cond_f rfl (RW.skip (RW.seq (RW.sreg (rl.run 1 rfl (rl.done ?_))))))
  obtain ⟨y5, ey5, h3⟩ := bindS h1
  refine RW.cutq (σ := Unit) (fun y2 => []) (fun y2 => []) (fun y => y5 = .inr y) (fun _ _ _ _ g h => RW.gh g h) ?_ ?_
  ·refine RW.blk ?_
   refine RW.iter (σ := Int) ey5 (fun s1 => [(0, .lst false 1 (fl (encS false) x0) x0.length), (1, .lst false 1 (fl (encS false) x1) x1.length), (5, .int .i64 s1)]) (fun s1 => []) (Gh.ren0 [] .nil rfl (.cons rfl (.dat (ekS.rlst)) (.cons rfl (.dat (ekS.rlst)) (.cons rfl (.dat .int) .nil)))) (fun s1 B o hS2 hB2 hE2 => ?_)
   unfold S_laws_eqStringS_1 at hS2
   refine RW.seq (RW.sreg (rl.run 3 rfl ?_))
   refine rl.gen rfl rfl fun b hb => ?_
   cases b
   ·have h4 := iteBF hS2 hb
    refine rl.done (RW.cond_f rfl (RW.exit (blkA_eq ?_)))
    cases h4
    exact ⟨_, (hE2 _ rfl).symm, (Gh.ren0 [] .nil rfl .nil)⟩
   ·have h5 := iteBT hS2 hb
    refine rl.done (RW.cond_t rfl (RW.skip (RW.seq (RW.blk (RW.sdrw (rdraw.op rfl rfl (rdraw.op rfl rfl ?_)))))))
    obtain ⟨v3, e3, h6⟩ := bindS h5
    refine rdraw.op rfl (x_ia_lst (enc := encS) (o := false) rfl rfl rfl e3) ?_
    refine rdraw.op rfl (x_ld_el (off' := 0) ekS rfl e3 rfl rfl rfl) ?_
    refine rdraw.op rfl rfl (rdraw.op rfl rfl ?_)
    obtain ⟨v4, e4, h7⟩ := bindS h6
    refine rdraw.op rfl (x_ia_lst (enc := encS) (o := false) rfl rfl rfl e4) ?_
    refine rdraw.op rfl (x_ld_el (off' := 0) ekS rfl e4 rfl rfl rfl) ?_
    refine rdraw.gen rfl rfl fun b hb => ?_
    cases b
    ·have h8 := iteBF h7 hb
     refine rdraw.done ?_
     refine RW.keep [0, 1, 5, 25] (a' := [(0, .lst false 1 (fl (encS false) x0) x0.length), (1, .lst false 1 (fl (encS false) x1) x1.length), (5, .int .i64 s1), (25, .bool false)]) (H' := []) rfl rfl ?_
     refine RW.cond_f rfl (RW.skip (RW.reg (rl.run 3 rfl (rl.done ?_))))
     cases h8
     exact hB2 _ rfl _ _ (Gh.ren0 [] .nil rfl (.cons rfl (.dat (ekS.rlst)) (.cons rfl (.dat (ekS.rlst)) (.cons rfl (.dat .int) .nil))))
    ·have h9 := iteBT h7 hb
     refine rdraw.done ?_
     refine RW.keep [0, 1, 5, 25] (a' := [(0, .lst false 1 (fl (encS false) x0) x0.length), (1, .lst false 1 (fl (encS false) x1) x1.length), (5, .int .i64 s1), (25, .bool true)]) (H' := []) rfl rfl ?_
     refine RW.cond_t rfl (RW.sreg (rl.run 1 rfl (rl.done (RW.ret ?_))))
     cases h9
     have h10 := elimL h3 (hE2 _ rfl)
     cases h10
     exact RRet.mk rfl .bool (by first | decide | simp)
  ·intro y2 hC
   have h3 := elimR h3 hC
   refine RW.sreg (rl.run 1 rfl (rl.done (RW.ret ?_)))
   cases h3
   exact RRet.mk rfl .bool (by first | decide | simp)
 ·have h11 := iteBT hF hb
  refine rl.done (RW.cond_t rfl (RW.sreg (rl.run 1 rfl (rl.done (RW.ret ?_)))))
  cases h11
  exact RRet.mk rfl .bool (by first | decide | simp)
theorem law_laws_eqWrite {x0 : TWrite} {x1 : TWrite} {r : Bool} (hF : F_laws_eqWrite x0 x1 = some r) : PCalls Tryz.prog 80 [.agg (enc_TWrite false x0), .agg (enc_TWrite false x1)] (.bool r) := by
 refine PCalls.of_r k_laws_eqWrite rfl ?_
 unfold F_laws_eqWrite at hF
 refine RW.sreg (rl.run 3 rfl (rl.done (RW.seq (RW.sreg (rl.run 4 rfl ?_)))))
 refine rl.gen rfl rfl fun b hb => ?_
 cases b
 ·have h1 := iteBF hF hb
  refine rl.done (RW.cond_f rfl (RW.skip (RW.seq (RW.sreg (rl.run 4 rfl ?_)))))
  refine rl.gen rfl rfl fun b hb => ?_
  cases b
  ·have h2 := iteBF h1 hb
   refine rl.done ?_
   refine RW.keep [14] (a' := [(14, .bool false)]) (H' := [some ⟨[.int .i64 x0.At, .str x0.Text], 0⟩, some ⟨[.int .i64 x1.At, .str x1.Text], 0⟩]) rfl rfl ?_
   refine RW.cond_f rfl (RW.skip (RW.sreg (rl.run 1 rfl (rl.done (RW.ret ?_)))))
   cases h2
   exact RRet.mk rfl .bool (by first | decide | simp)
  ·have h3 := iteBT h1 hb
   refine rl.done ?_
   refine RW.keep [14] (a' := [(14, .bool true)]) (H' := [some ⟨[.int .i64 x0.At, .str x0.Text], 0⟩, some ⟨[.int .i64 x1.At, .str x1.Text], 0⟩]) rfl rfl ?_
   refine RW.cond_t rfl (RW.sreg (rl.run 1 rfl (rl.done (RW.ret ?_))))
   cases h3
   exact RRet.mk rfl .bool (by first | decide | simp)
 ·have h4 := iteBT hF hb
  refine rl.done (RW.cond_t rfl (RW.sreg (rl.run 1 rfl (rl.done (RW.ret ?_)))))
  cases h4
  exact RRet.mk rfl .bool (by first | decide | simp)
theorem law_laws_eqWriteS {x0 : List TWrite} {x1 : List TWrite} {r : Bool} (hF : F_laws_eqWriteS x0 x1 = some r) : PCalls Tryz.prog 60 [.lst false 2 (fl (enc_TWrite false) x0) x0.length, .lst false 2 (fl (enc_TWrite false) x1) x1.length] (.bool r) := by
 refine PCalls.of_r k_laws_eqWriteS rfl ?_
 unfold F_laws_eqWriteS at hF
 refine RW.sreg (rl.run 1 rfl (rl.done (RW.seq (RW.sreg (rl.run 4 rfl ?_)))))
 refine rl.gen rfl rfl fun b hb => ?_
 cases b
 ·have h1 := iteBF hF hb
  refine rl.done (RW.cond_f rfl (RW.skip (RW.seq (RW.sreg (rl.run 1 rfl (rl.done ?_))))))
  obtain ⟨y6, ey6, h3⟩ := bindS h1
  refine RW.cutq (σ := Unit) (fun y2 => []) (fun y2 => []) (fun y => y6 = .inr y) (fun _ _ _ _ g h => RW.gh g h) ?_ ?_
  ·refine RW.blk ?_
   refine RW.iter (σ := Int) ey6 (fun s1 => [(0, .lst false 2 (fl (enc_TWrite false) x0) x0.length), (1, .lst false 2 (fl (enc_TWrite false) x1) x1.length), (5, .int .i64 s1)]) (fun s1 => []) (Gh.ren0 [] .nil rfl (.cons rfl (.dat (ek_TWrite.rlst)) (.cons rfl (.dat (ek_TWrite.rlst)) (.cons rfl (.dat .int) .nil)))) (fun s1 B o hS2 hB2 hE2 => ?_)
   unfold S_laws_eqWriteS_1 at hS2
   refine RW.seq (RW.sreg (rl.run 3 rfl ?_))
   refine rl.gen rfl rfl fun b hb => ?_
   cases b
   ·have h4 := iteBF hS2 hb
    refine rl.done (RW.cond_f rfl (RW.exit (blkA_eq ?_)))
    cases h4
    exact ⟨_, (hE2 _ rfl).symm, (Gh.ren0 [] .nil rfl .nil)⟩
   ·have h5 := iteBT hS2 hb
    refine rl.done (RW.cond_t rfl (RW.skip (RW.seq (RW.blk (RW.sdrw (rdraw.op rfl rfl (rdraw.op rfl rfl ?_)))))))
    obtain ⟨v3, e3, h6⟩ := bindS h5
    refine rdraw.op rfl (x_ia_lst (enc := enc_TWrite) (o := false) rfl rfl rfl e3) ?_
    refine rdraw.op rfl (x_ld_ela (off' := 0) (vs := (enc_TWrite false v3)) ek_TWrite rfl e3 rfl rfl rfl) ?_
    refine rdraw.op rfl rfl (rdraw.op rfl rfl ?_)
    obtain ⟨v4, e4, h7⟩ := bindS h6
    refine rdraw.op rfl (x_ia_lst (enc := enc_TWrite) (o := false) rfl rfl rfl e4) ?_
    refine rdraw.op rfl (x_ld_ela (off' := 0) (vs := (enc_TWrite false v4)) ek_TWrite rfl e4 rfl rfl rfl) ?_
    obtain ⟨v5, e5, h8⟩ := bindS h7
    refine rdraw.call rfl rfl rfl (CallW.val (r' := .bool v5) ok_laws_eqWrite (law_laws_eqWrite e5) (.cons (.dat (.agg (ek_TWrite.dat false _))) (.cons (.dat (.agg (ek_TWrite.dat false _))) .nil)) .refl ⟨rfl, ?_⟩)
    cases hb : v5
    ·have h9 := iteBF h8 hb
     refine rdraw.op rfl rfl (rdraw.done ?_)
     refine RW.keep [0, 1, 5, 26] (a' := [(0, .lst false 2 (fl (enc_TWrite false) x0) x0.length), (1, .lst false 2 (fl (enc_TWrite false) x1) x1.length), (5, .int .i64 s1), (26, .bool true)]) (H' := []) rfl rfl ?_
     refine RW.cond_t rfl (RW.sreg (rl.run 1 rfl (rl.done (RW.ret ?_))))
     cases h9
     have h10 := elimL h3 (hE2 _ rfl)
     cases h10
     exact RRet.mk rfl .bool (by first | decide | simp)
    ·have h11 := iteBT h8 hb
     refine rdraw.op rfl rfl (rdraw.done ?_)
     refine RW.keep [0, 1, 5, 26] (a' := [(0, .lst false 2 (fl (enc_TWrite false) x0) x0.length), (1, .lst false 2 (fl (enc_TWrite false) x1) x1.length), (5, .int .i64 s1), (26, .bool false)]) (H' := []) rfl rfl ?_
     refine RW.cond_f rfl (RW.skip (RW.reg (rl.run 3 rfl (rl.done ?_))))
     cases h11
     exact hB2 _ rfl _ _ (Gh.ren0 [] .nil rfl (.cons rfl (.dat (ek_TWrite.rlst)) (.cons rfl (.dat (ek_TWrite.rlst)) (.cons rfl (.dat .int) .nil))))
  ·intro y2 hC
   have h3 := elimR h3 hC
   refine RW.sreg (rl.run 1 rfl (rl.done (RW.ret ?_)))
   cases h3
   exact RRet.mk rfl .bool (by first | decide | simp)
 ·have h12 := iteBT hF hb
  refine rl.done (RW.cond_t rfl (RW.sreg (rl.run 1 rfl (rl.done (RW.ret ?_)))))
  cases h12
  exact RRet.mk rfl .bool (by first | decide | simp)
theorem law_laws_eqDisk {x0 : TDisk} {x1 : TDisk} {r : Bool} (hF : F_laws_eqDisk x0 x1 = some r) : PCalls Tryz.prog 38 [.agg (enc_TDisk false x0), .agg (enc_TDisk false x1)] (.bool r) := by
 refine PCalls.of_r k_laws_eqDisk rfl ?_
 unfold F_laws_eqDisk at hF
 refine RW.sreg (rl.run 3 rfl (rl.done (RW.seq (RW.sreg (rl.run 4 rfl ?_)))))
 obtain ⟨v1, e1, h1⟩ := bindS hF
 refine rl.call rfl rfl rfl (CallW.val (r' := .bool v1) ok_laws_eqStringS (law_laws_eqStringS e1) (.cons (.lst ekS) (.cons (.lst ekS) .nil)) .refl ?_)
 cases hb : v1
 ·have h2 := iteBF h1 hb
  refine rl.run 1 rfl (rl.done (RW.cond_t rfl (RW.sreg (rl.run 1 rfl (rl.done (RW.ret ?_))))))
  cases h2
  exact RRet.mk rfl .bool (by first | decide | simp)
 ·have h3 := iteBT h1 hb
  refine rl.run 1 rfl (rl.done (RW.cond_f rfl (RW.skip (RW.seq (RW.sreg (rl.run 4 rfl ?_))))))
  obtain ⟨v2, e2, h4⟩ := bindS h3
  refine rl.call rfl rfl rfl (CallW.val (r' := .bool v2) ok_laws_eqWriteS (law_laws_eqWriteS e2) (.cons (.lst ek_TWrite) (.cons (.lst ek_TWrite) .nil)) .refl ?_)
  cases hb : v2
  ·have h5 := iteBF h4 hb
   refine rl.run 1 rfl (rl.done ?_)
   refine RW.keep [16] (a' := [(16, .bool true)]) (H' := [some ⟨[.lst false 1 (fl (encS false) x0.Sectors) x0.Sectors.length, .lst false 2 (fl (enc_TWrite false) x0.Cache) x0.Cache.length], 0⟩, some ⟨[.lst false 1 (fl (encS false) x1.Sectors) x1.Sectors.length, .lst false 2 (fl (enc_TWrite false) x1.Cache) x1.Cache.length], 0⟩]) rfl rfl ?_
   refine RW.cond_t rfl (RW.sreg (rl.run 1 rfl (rl.done (RW.ret ?_))))
   cases h5
   exact RRet.mk rfl .bool (by first | decide | simp)
  ·have h6 := iteBT h4 hb
   refine rl.run 1 rfl (rl.done ?_)
   refine RW.keep [16] (a' := [(16, .bool false)]) (H' := [some ⟨[.lst false 1 (fl (encS false) x0.Sectors) x0.Sectors.length, .lst false 2 (fl (enc_TWrite false) x0.Cache) x0.Cache.length], 0⟩, some ⟨[.lst false 1 (fl (encS false) x1.Sectors) x1.Sectors.length, .lst false 2 (fl (enc_TWrite false) x1.Cache) x1.Cache.length], 0⟩]) rfl rfl ?_
   refine RW.cond_f rfl (RW.skip (RW.sreg (rl.run 1 rfl (rl.done (RW.ret ?_)))))
   cases h6
   exact RRet.mk rfl .bool (by first | decide | simp)
theorem law_laws_eqRec {x0 : TRec} {x1 : TRec} {r : Bool} (hF : F_laws_eqRec x0 x1 = some r) : PCalls Tryz.prog 111 [.agg (enc_TRec false x0), .agg (enc_TRec false x1)] (.bool r) := by
 refine PCalls.of_r k_laws_eqRec rfl ?_
 unfold F_laws_eqRec at hF
 refine RW.sreg (rl.run 3 rfl (rl.done (RW.seq (RW.sreg (rl.run 4 rfl ?_)))))
 refine rl.gen rfl rfl fun b hb => ?_
 cases b
 ·have h1 := iteBF hF hb
  refine rl.done (RW.cond_f rfl (RW.skip (RW.seq (RW.sreg (rl.run 4 rfl ?_)))))
  refine rl.gen rfl rfl fun b hb => ?_
  cases b
  ·have h2 := iteBF h1 hb
   refine rl.done ?_
   refine RW.keep [2, 3, 14] (a' := [(2, .ptr 0 0), (3, .ptr 1 0), (14, .bool false)]) (H' := [some ⟨[.int .i64 x0.Kind, .int .i64 x0.Valid, .int .i64 x0.Uid, .int .i64 x0.Next, .int .i64 x0.Flags, .str x0.User, .str x0.Name, .str x0.Text], 0⟩, some ⟨[.int .i64 x1.Kind, .int .i64 x1.Valid, .int .i64 x1.Uid, .int .i64 x1.Next, .int .i64 x1.Flags, .str x1.User, .str x1.Name, .str x1.Text], 0⟩]) rfl rfl ?_
   refine RW.cond_f rfl (RW.skip (RW.seq (RW.sreg (rl.run 4 rfl ?_))))
   refine rl.gen rfl rfl fun b hb => ?_
   cases b
   ·have h3 := iteBF h2 hb
    refine rl.done (RW.cond_f rfl (RW.skip (RW.seq (RW.sreg (rl.run 4 rfl ?_)))))
    refine rl.gen rfl rfl fun b hb => ?_
    cases b
    ·have h4 := iteBF h3 hb
     refine rl.done (RW.cond_f rfl (RW.skip (RW.seq (RW.sreg (rl.run 4 rfl ?_)))))
     refine rl.gen rfl rfl fun b hb => ?_
     cases b
     ·have h5 := iteBF h4 hb
      refine rl.done ?_
      refine RW.keep [2, 3, 29] (a' := [(2, .ptr 0 0), (3, .ptr 1 0), (29, .bool false)]) (H' := [some ⟨[.int .i64 x0.Kind, .int .i64 x0.Valid, .int .i64 x0.Uid, .int .i64 x0.Next, .int .i64 x0.Flags, .str x0.User, .str x0.Name, .str x0.Text], 0⟩, some ⟨[.int .i64 x1.Kind, .int .i64 x1.Valid, .int .i64 x1.Uid, .int .i64 x1.Next, .int .i64 x1.Flags, .str x1.User, .str x1.Name, .str x1.Text], 0⟩]) rfl rfl ?_
      refine RW.cond_f rfl (RW.skip (RW.seq (RW.sreg (rl.run 4 rfl ?_))))
      refine rl.gen rfl rfl fun b hb => ?_
      cases b
      ·have h6 := iteBF h5 hb
       refine rl.done (RW.cond_f rfl (RW.skip (RW.seq (RW.sreg (rl.run 4 rfl ?_)))))
       refine rl.gen rfl rfl fun b hb => ?_
       cases b
       ·have h7 := iteBF h6 hb
        refine rl.done (RW.cond_f rfl (RW.skip (RW.seq (RW.sreg (rl.run 4 rfl ?_)))))
        refine rl.gen rfl rfl fun b hb => ?_
        cases b
        ·have h8 := iteBF h7 hb
         refine rl.done ?_
         refine RW.keep [44] (a' := [(44, .bool false)]) (H' := [some ⟨[.int .i64 x0.Kind, .int .i64 x0.Valid, .int .i64 x0.Uid, .int .i64 x0.Next, .int .i64 x0.Flags, .str x0.User, .str x0.Name, .str x0.Text], 0⟩, some ⟨[.int .i64 x1.Kind, .int .i64 x1.Valid, .int .i64 x1.Uid, .int .i64 x1.Next, .int .i64 x1.Flags, .str x1.User, .str x1.Name, .str x1.Text], 0⟩]) rfl rfl ?_
         refine RW.cond_f rfl (RW.skip (RW.sreg (rl.run 1 rfl (rl.done (RW.ret ?_)))))
         cases h8
         exact RRet.mk rfl .bool (by first | decide | simp)
        ·have h9 := iteBT h7 hb
         refine rl.done ?_
         refine RW.keep [44] (a' := [(44, .bool true)]) (H' := [some ⟨[.int .i64 x0.Kind, .int .i64 x0.Valid, .int .i64 x0.Uid, .int .i64 x0.Next, .int .i64 x0.Flags, .str x0.User, .str x0.Name, .str x0.Text], 0⟩, some ⟨[.int .i64 x1.Kind, .int .i64 x1.Valid, .int .i64 x1.Uid, .int .i64 x1.Next, .int .i64 x1.Flags, .str x1.User, .str x1.Name, .str x1.Text], 0⟩]) rfl rfl ?_
         refine RW.cond_t rfl (RW.sreg (rl.run 1 rfl (rl.done (RW.ret ?_))))
         cases h9
         exact RRet.mk rfl .bool (by first | decide | simp)
       ·have h10 := iteBT h6 hb
        refine rl.done (RW.cond_t rfl (RW.sreg (rl.run 1 rfl (rl.done ?_))))
        refine RW.keep [4] (a' := [(4, .bool false)]) (H' := [some ⟨[.int .i64 x0.Kind, .int .i64 x0.Valid, .int .i64 x0.Uid, .int .i64 x0.Next, .int .i64 x0.Flags, .str x0.User, .str x0.Name, .str x0.Text], 0⟩, some ⟨[.int .i64 x1.Kind, .int .i64 x1.Valid, .int .i64 x1.Uid, .int .i64 x1.Next, .int .i64 x1.Flags, .str x1.User, .str x1.Name, .str x1.Text], 0⟩]) rfl rfl ?_
        refine RW.ret ?_
        cases h10
        exact RRet.mk rfl .bool (by first | decide | simp)
      ·have h11 := iteBT h5 hb
       refine rl.done (RW.cond_t rfl (RW.sreg (rl.run 1 rfl (rl.done (RW.ret ?_)))))
       cases h11
       exact RRet.mk rfl .bool (by first | decide | simp)
     ·have h12 := iteBT h4 hb
      refine rl.done ?_
      refine RW.keep [2, 3, 29] (a' := [(2, .ptr 0 0), (3, .ptr 1 0), (29, .bool true)]) (H' := [some ⟨[.int .i64 x0.Kind, .int .i64 x0.Valid, .int .i64 x0.Uid, .int .i64 x0.Next, .int .i64 x0.Flags, .str x0.User, .str x0.Name, .str x0.Text], 0⟩, some ⟨[.int .i64 x1.Kind, .int .i64 x1.Valid, .int .i64 x1.Uid, .int .i64 x1.Next, .int .i64 x1.Flags, .str x1.User, .str x1.Name, .str x1.Text], 0⟩]) rfl rfl ?_
      refine RW.cond_t rfl (RW.sreg (rl.run 1 rfl (rl.done (RW.ret ?_))))
      cases h12
      exact RRet.mk rfl .bool (by first | decide | simp)
    ·have h13 := iteBT h3 hb
     refine rl.done (RW.cond_t rfl (RW.sreg (rl.run 1 rfl (rl.done ?_))))
     refine RW.keep [4] (a' := [(4, .bool false)]) (H' := [some ⟨[.int .i64 x0.Kind, .int .i64 x0.Valid, .int .i64 x0.Uid, .int .i64 x0.Next, .int .i64 x0.Flags, .str x0.User, .str x0.Name, .str x0.Text], 0⟩, some ⟨[.int .i64 x1.Kind, .int .i64 x1.Valid, .int .i64 x1.Uid, .int .i64 x1.Next, .int .i64 x1.Flags, .str x1.User, .str x1.Name, .str x1.Text], 0⟩]) rfl rfl ?_
     refine RW.ret ?_
     cases h13
     exact RRet.mk rfl .bool (by first | decide | simp)
   ·have h14 := iteBT h2 hb
    refine rl.done (RW.cond_t rfl (RW.sreg (rl.run 1 rfl (rl.done (RW.ret ?_)))))
    cases h14
    exact RRet.mk rfl .bool (by first | decide | simp)
  ·have h15 := iteBT h1 hb
   refine rl.done ?_
   refine RW.keep [2, 3, 14] (a' := [(2, .ptr 0 0), (3, .ptr 1 0), (14, .bool true)]) (H' := [some ⟨[.int .i64 x0.Kind, .int .i64 x0.Valid, .int .i64 x0.Uid, .int .i64 x0.Next, .int .i64 x0.Flags, .str x0.User, .str x0.Name, .str x0.Text], 0⟩, some ⟨[.int .i64 x1.Kind, .int .i64 x1.Valid, .int .i64 x1.Uid, .int .i64 x1.Next, .int .i64 x1.Flags, .str x1.User, .str x1.Name, .str x1.Text], 0⟩]) rfl rfl ?_
   refine RW.cond_t rfl (RW.sreg (rl.run 1 rfl (rl.done (RW.ret ?_))))
   cases h15
   exact RRet.mk rfl .bool (by first | decide | simp)
 ·have h16 := iteBT hF hb
  refine rl.done (RW.cond_t rfl (RW.sreg (rl.run 1 rfl (rl.done (RW.ret ?_)))))
  cases h16
  exact RRet.mk rfl .bool (by first | decide | simp)
theorem law_laws_eqItem {x0 : TItem} {x1 : TItem} {r : Bool} (hF : F_laws_eqItem x0 x1 = some r) : PCalls Tryz.prog 101 [.agg (enc_TItem false x0), .agg (enc_TItem false x1)] (.bool r) := by
 refine PCalls.of_r k_laws_eqItem rfl ?_
 unfold F_laws_eqItem at hF
 refine RW.sreg (rl.run 3 rfl (rl.done (RW.seq (RW.sreg (rl.run 4 rfl ?_)))))
 refine rl.gen rfl rfl fun b hb => ?_
 cases b
 ·have h1 := iteBF hF hb
  refine rl.done (RW.cond_f rfl (RW.skip (RW.seq (RW.sreg (rl.run 4 rfl ?_)))))
  obtain ⟨v1, e1, h2⟩ := bindS h1
  refine rl.call rfl rfl rfl (CallW.val (r' := .bool v1) ok_laws_eqRec (law_laws_eqRec e1) (.cons (DFL.agg (.cons .int (.cons .int (.cons .int (.cons .int (.cons .int (.cons .str (.cons .str (.cons .str .nil))))))))) (.cons (DFL.agg (.cons .int (.cons .int (.cons .int (.cons .int (.cons .int (.cons .str (.cons .str (.cons .str .nil))))))))) .nil)) .refl ?_)
  cases hb : v1
  ·have h3 := iteBF h2 hb
   refine rl.run 1 rfl (rl.done ?_)
   refine RW.keep [15] (a' := [(15, .bool true)]) (H' := [some ⟨[.int .i64 x0.Seq, .int .i64 x0.Rec.Kind, .int .i64 x0.Rec.Valid, .int .i64 x0.Rec.Uid, .int .i64 x0.Rec.Next, .int .i64 x0.Rec.Flags, .str x0.Rec.User, .str x0.Rec.Name, .str x0.Rec.Text], 0⟩, some ⟨[.int .i64 x1.Seq, .int .i64 x1.Rec.Kind, .int .i64 x1.Rec.Valid, .int .i64 x1.Rec.Uid, .int .i64 x1.Rec.Next, .int .i64 x1.Rec.Flags, .str x1.Rec.User, .str x1.Rec.Name, .str x1.Rec.Text], 0⟩]) rfl rfl ?_
   refine RW.cond_t rfl (RW.sreg (rl.run 1 rfl (rl.done (RW.ret ?_))))
   cases h3
   exact RRet.mk rfl .bool (by first | decide | simp)
  ·have h4 := iteBT h2 hb
   refine rl.run 1 rfl (rl.done ?_)
   refine RW.keep [15] (a' := [(15, .bool false)]) (H' := [some ⟨[.int .i64 x0.Seq, .int .i64 x0.Rec.Kind, .int .i64 x0.Rec.Valid, .int .i64 x0.Rec.Uid, .int .i64 x0.Rec.Next, .int .i64 x0.Rec.Flags, .str x0.Rec.User, .str x0.Rec.Name, .str x0.Rec.Text], 0⟩, some ⟨[.int .i64 x1.Seq, .int .i64 x1.Rec.Kind, .int .i64 x1.Rec.Valid, .int .i64 x1.Rec.Uid, .int .i64 x1.Rec.Next, .int .i64 x1.Rec.Flags, .str x1.Rec.User, .str x1.Rec.Name, .str x1.Rec.Text], 0⟩]) rfl rfl ?_
   refine RW.cond_f rfl (RW.skip (RW.sreg (rl.run 1 rfl (rl.done (RW.ret ?_)))))
   cases h4
   exact RRet.mk rfl .bool (by first | decide | simp)
 ·have h5 := iteBT hF hb
  refine rl.done (RW.cond_t rfl (RW.sreg (rl.run 1 rfl (rl.done (RW.ret ?_)))))
  cases h5
  exact RRet.mk rfl .bool (by first | decide | simp)
theorem law_laws_eqItemS {x0 : List TItem} {x1 : List TItem} {r : Bool} (hF : F_laws_eqItemS x0 x1 = some r) : PCalls Tryz.prog 81 [.lst false 9 (fl (enc_TItem false) x0) x0.length, .lst false 9 (fl (enc_TItem false) x1) x1.length] (.bool r) := by
 refine PCalls.of_r k_laws_eqItemS rfl ?_
 unfold F_laws_eqItemS at hF
 refine RW.sreg (rl.run 1 rfl (rl.done (RW.seq (RW.sreg (rl.run 4 rfl ?_)))))
 refine rl.gen rfl rfl fun b hb => ?_
 cases b
 ·have h1 := iteBF hF hb
  refine rl.done (RW.cond_f rfl (RW.skip (RW.seq (RW.sreg (rl.run 1 rfl (rl.done ?_))))))
  obtain ⟨y6, ey6, h3⟩ := bindS h1
  refine RW.cutq (σ := Unit) (fun y2 => []) (fun y2 => []) (fun y => y6 = .inr y) (fun _ _ _ _ g h => RW.gh g h) ?_ ?_
  ·refine RW.blk ?_
   refine RW.iter (σ := Int) ey6 (fun s1 => [(0, .lst false 9 (fl (enc_TItem false) x0) x0.length), (1, .lst false 9 (fl (enc_TItem false) x1) x1.length), (5, .int .i64 s1)]) (fun s1 => []) (Gh.ren0 [] .nil rfl (.cons rfl (.dat (ek_TItem.rlst)) (.cons rfl (.dat (ek_TItem.rlst)) (.cons rfl (.dat .int) .nil)))) (fun s1 B o hS2 hB2 hE2 => ?_)
   unfold S_laws_eqItemS_1 at hS2
   refine RW.seq (RW.sreg (rl.run 3 rfl ?_))
   refine rl.gen rfl rfl fun b hb => ?_
   cases b
   ·have h4 := iteBF hS2 hb
    refine rl.done (RW.cond_f rfl (RW.exit (blkA_eq ?_)))
    cases h4
    exact ⟨_, (hE2 _ rfl).symm, (Gh.ren0 [] .nil rfl .nil)⟩
   ·have h5 := iteBT hS2 hb
    refine rl.done (RW.cond_t rfl (RW.skip (RW.seq (RW.blk (RW.sdrw (rdraw.op rfl rfl (rdraw.op rfl rfl ?_)))))))
    obtain ⟨v3, e3, h6⟩ := bindS h5
    refine rdraw.op rfl (x_ia_lst (enc := enc_TItem) (o := false) rfl rfl rfl e3) ?_
    refine rdraw.op rfl (x_ld_ela (off' := 0) (vs := (enc_TItem false v3)) ek_TItem rfl e3 rfl rfl rfl) ?_
    refine rdraw.op rfl rfl (rdraw.op rfl rfl ?_)
    obtain ⟨v4, e4, h7⟩ := bindS h6
    refine rdraw.op rfl (x_ia_lst (enc := enc_TItem) (o := false) rfl rfl rfl e4) ?_
    refine rdraw.op rfl (x_ld_ela (off' := 0) (vs := (enc_TItem false v4)) ek_TItem rfl e4 rfl rfl rfl) ?_
    obtain ⟨v5, e5, h8⟩ := bindS h7
    refine rdraw.call rfl rfl rfl (CallW.val (r' := .bool v5) ok_laws_eqItem (law_laws_eqItem e5) (.cons (.dat (.agg (ek_TItem.dat false _))) (.cons (.dat (.agg (ek_TItem.dat false _))) .nil)) .refl ⟨rfl, ?_⟩)
    cases hb : v5
    ·have h9 := iteBF h8 hb
     refine rdraw.op rfl rfl (rdraw.done ?_)
     refine RW.keep [0, 1, 5, 26] (a' := [(0, .lst false 9 (fl (enc_TItem false) x0) x0.length), (1, .lst false 9 (fl (enc_TItem false) x1) x1.length), (5, .int .i64 s1), (26, .bool true)]) (H' := []) rfl rfl ?_
     refine RW.cond_t rfl (RW.sreg (rl.run 1 rfl (rl.done (RW.ret ?_))))
     cases h9
     have h10 := elimL h3 (hE2 _ rfl)
     cases h10
     exact RRet.mk rfl .bool (by first | decide | simp)
    ·have h11 := iteBT h8 hb
     refine rdraw.op rfl rfl (rdraw.done ?_)
     refine RW.keep [0, 1, 5, 26] (a' := [(0, .lst false 9 (fl (enc_TItem false) x0) x0.length), (1, .lst false 9 (fl (enc_TItem false) x1) x1.length), (5, .int .i64 s1), (26, .bool false)]) (H' := []) rfl rfl ?_
     refine RW.cond_f rfl (RW.skip (RW.reg (rl.run 3 rfl (rl.done ?_))))
     cases h11
     exact hB2 _ rfl _ _ (Gh.ren0 [] .nil rfl (.cons rfl (.dat (ek_TItem.rlst)) (.cons rfl (.dat (ek_TItem.rlst)) (.cons rfl (.dat .int) .nil))))
  ·intro y2 hC
   have h3 := elimR h3 hC
   refine RW.sreg (rl.run 1 rfl (rl.done (RW.ret ?_)))
   cases h3
   exact RRet.mk rfl .bool (by first | decide | simp)
 ·have h12 := iteBT hF hb
  refine rl.done (RW.cond_t rfl (RW.sreg (rl.run 1 rfl (rl.done (RW.ret ?_)))))
  cases h12
  exact RRet.mk rfl .bool (by first | decide | simp)
theorem law_laws_eqSeg {x0 : TSeg} {x1 : TSeg} {r : Bool} (hF : F_laws_eqSeg x0 x1 = some r) : PCalls Tryz.prog 61 [.agg (enc_TSeg false x0), .agg (enc_TSeg false x1)] (.bool r) := by
 refine PCalls.of_r k_laws_eqSeg rfl ?_
 unfold F_laws_eqSeg at hF
 refine RW.sreg (rl.run 3 rfl (rl.done (RW.seq (RW.sreg (rl.run 4 rfl ?_)))))
 refine rl.gen rfl rfl fun b hb => ?_
 cases b
 ·have h1 := iteBF hF hb
  refine rl.done (RW.cond_f rfl (RW.skip (RW.seq (RW.sreg (rl.run 4 rfl ?_)))))
  refine rl.gen rfl rfl fun b hb => ?_
  cases b
  ·have h2 := iteBF h1 hb
   refine rl.done ?_
   refine RW.keep [2, 3, 14] (a' := [(2, .ptr 0 0), (3, .ptr 1 0), (14, .bool false)]) (H' := [some ⟨[.int .i64 x0.No, .int .i64 x0.Gen, .int .i64 x0.End, .lst false 9 (fl (enc_TItem false) x0.Items) x0.Items.length], 0⟩, some ⟨[.int .i64 x1.No, .int .i64 x1.Gen, .int .i64 x1.End, .lst false 9 (fl (enc_TItem false) x1.Items) x1.Items.length], 0⟩]) rfl rfl ?_
   refine RW.cond_f rfl (RW.skip (RW.seq (RW.sreg (rl.run 4 rfl ?_))))
   refine rl.gen rfl rfl fun b hb => ?_
   cases b
   ·have h3 := iteBF h2 hb
    refine rl.done (RW.cond_f rfl (RW.skip (RW.seq (RW.sreg (rl.run 4 rfl ?_)))))
    obtain ⟨v1, e1, h4⟩ := bindS h3
    refine rl.call rfl rfl rfl (CallW.val (r' := .bool v1) ok_laws_eqItemS (law_laws_eqItemS e1) (.cons (.lst ek_TItem) (.cons (.lst ek_TItem) .nil)) .refl ?_)
    cases hb : v1
    ·have h5 := iteBF h4 hb
     refine rl.run 1 rfl (rl.done ?_)
     refine RW.keep [25] (a' := [(25, .bool true)]) (H' := [some ⟨[.int .i64 x0.No, .int .i64 x0.Gen, .int .i64 x0.End, .lst false 9 (fl (enc_TItem false) x0.Items) x0.Items.length], 0⟩, some ⟨[.int .i64 x1.No, .int .i64 x1.Gen, .int .i64 x1.End, .lst false 9 (fl (enc_TItem false) x1.Items) x1.Items.length], 0⟩]) rfl rfl ?_
     refine RW.cond_t rfl (RW.sreg (rl.run 1 rfl (rl.done (RW.ret ?_))))
     cases h5
     exact RRet.mk rfl .bool (by first | decide | simp)
    ·have h6 := iteBT h4 hb
     refine rl.run 1 rfl (rl.done ?_)
     refine RW.keep [25] (a' := [(25, .bool false)]) (H' := [some ⟨[.int .i64 x0.No, .int .i64 x0.Gen, .int .i64 x0.End, .lst false 9 (fl (enc_TItem false) x0.Items) x0.Items.length], 0⟩, some ⟨[.int .i64 x1.No, .int .i64 x1.Gen, .int .i64 x1.End, .lst false 9 (fl (enc_TItem false) x1.Items) x1.Items.length], 0⟩]) rfl rfl ?_
     refine RW.cond_f rfl (RW.skip (RW.sreg (rl.run 1 rfl (rl.done (RW.ret ?_)))))
     cases h6
     exact RRet.mk rfl .bool (by first | decide | simp)
   ·have h7 := iteBT h2 hb
    refine rl.done (RW.cond_t rfl (RW.sreg (rl.run 1 rfl (rl.done (RW.ret ?_)))))
    cases h7
    exact RRet.mk rfl .bool (by first | decide | simp)
  ·have h8 := iteBT h1 hb
   refine rl.done ?_
   refine RW.keep [2, 3, 14] (a' := [(2, .ptr 0 0), (3, .ptr 1 0), (14, .bool true)]) (H' := [some ⟨[.int .i64 x0.No, .int .i64 x0.Gen, .int .i64 x0.End, .lst false 9 (fl (enc_TItem false) x0.Items) x0.Items.length], 0⟩, some ⟨[.int .i64 x1.No, .int .i64 x1.Gen, .int .i64 x1.End, .lst false 9 (fl (enc_TItem false) x1.Items) x1.Items.length], 0⟩]) rfl rfl ?_
   refine RW.cond_t rfl (RW.sreg (rl.run 1 rfl (rl.done (RW.ret ?_))))
   cases h8
   exact RRet.mk rfl .bool (by first | decide | simp)
 ·have h9 := iteBT hF hb
  refine rl.done (RW.cond_t rfl (RW.sreg (rl.run 1 rfl (rl.done (RW.ret ?_)))))
  cases h9
  exact RRet.mk rfl .bool (by first | decide | simp)
theorem law_laws_eqSegS {x0 : List TSeg} {x1 : List TSeg} {r : Bool} (hF : F_laws_eqSegS x0 x1 = some r) : PCalls Tryz.prog 39 [.lst false 4 (fl (enc_TSeg false) x0) x0.length, .lst false 4 (fl (enc_TSeg false) x1) x1.length] (.bool r) := by
 refine PCalls.of_r k_laws_eqSegS rfl ?_
 unfold F_laws_eqSegS at hF
 refine RW.sreg (rl.run 1 rfl (rl.done (RW.seq (RW.sreg (rl.run 4 rfl ?_)))))
 refine rl.gen rfl rfl fun b hb => ?_
 cases b
 ·have h1 := iteBF hF hb
  refine rl.done (RW.cond_f rfl (RW.skip (RW.seq (RW.sreg (rl.run 1 rfl (rl.done ?_))))))
  obtain ⟨y6, ey6, h3⟩ := bindS h1
  refine RW.cutq (σ := Unit) (fun y2 => []) (fun y2 => []) (fun y => y6 = .inr y) (fun _ _ _ _ g h => RW.gh g h) ?_ ?_
  ·refine RW.blk ?_
   refine RW.iter (σ := Int) ey6 (fun s1 => [(0, .lst false 4 (fl (enc_TSeg false) x0) x0.length), (1, .lst false 4 (fl (enc_TSeg false) x1) x1.length), (5, .int .i64 s1)]) (fun s1 => []) (Gh.ren0 [] .nil rfl (.cons rfl (.dat (ek_TSeg.rlst)) (.cons rfl (.dat (ek_TSeg.rlst)) (.cons rfl (.dat .int) .nil)))) (fun s1 B o hS2 hB2 hE2 => ?_)
   unfold S_laws_eqSegS_1 at hS2
   refine RW.seq (RW.sreg (rl.run 3 rfl ?_))
   refine rl.gen rfl rfl fun b hb => ?_
   cases b
   ·have h4 := iteBF hS2 hb
    refine rl.done (RW.cond_f rfl (RW.exit (blkA_eq ?_)))
    cases h4
    exact ⟨_, (hE2 _ rfl).symm, (Gh.ren0 [] .nil rfl .nil)⟩
   ·have h5 := iteBT hS2 hb
    refine rl.done (RW.cond_t rfl (RW.skip (RW.seq (RW.blk (RW.sdrw (rdraw.op rfl rfl (rdraw.op rfl rfl ?_)))))))
    obtain ⟨v3, e3, h6⟩ := bindS h5
    refine rdraw.op rfl (x_ia_lst (enc := enc_TSeg) (o := false) rfl rfl rfl e3) ?_
    refine rdraw.op rfl (x_ld_ela (off' := 0) (vs := (enc_TSeg false v3)) ek_TSeg rfl e3 rfl rfl rfl) ?_
    refine rdraw.op rfl rfl (rdraw.op rfl rfl ?_)
    obtain ⟨v4, e4, h7⟩ := bindS h6
    refine rdraw.op rfl (x_ia_lst (enc := enc_TSeg) (o := false) rfl rfl rfl e4) ?_
    refine rdraw.op rfl (x_ld_ela (off' := 0) (vs := (enc_TSeg false v4)) ek_TSeg rfl e4 rfl rfl rfl) ?_
    obtain ⟨v5, e5, h8⟩ := bindS h7
    refine rdraw.call rfl rfl rfl (CallW.val (r' := .bool v5) ok_laws_eqSeg (law_laws_eqSeg e5) (.cons (.dat (.agg (ek_TSeg.dat false _))) (.cons (.dat (.agg (ek_TSeg.dat false _))) .nil)) .refl ⟨rfl, ?_⟩)
    cases hb : v5
    ·have h9 := iteBF h8 hb
     refine rdraw.op rfl rfl (rdraw.done ?_)
     refine RW.keep [0, 1, 5, 26] (a' := [(0, .lst false 4 (fl (enc_TSeg false) x0) x0.length), (1, .lst false 4 (fl (enc_TSeg false) x1) x1.length), (5, .int .i64 s1), (26, .bool true)]) (H' := []) rfl rfl ?_
     refine RW.cond_t rfl (RW.sreg (rl.run 1 rfl (rl.done (RW.ret ?_))))
     cases h9
     have h10 := elimL h3 (hE2 _ rfl)
     cases h10
     exact RRet.mk rfl .bool (by first | decide | simp)
    ·have h11 := iteBT h8 hb
     refine rdraw.op rfl rfl (rdraw.done ?_)
     refine RW.keep [0, 1, 5, 26] (a' := [(0, .lst false 4 (fl (enc_TSeg false) x0) x0.length), (1, .lst false 4 (fl (enc_TSeg false) x1) x1.length), (5, .int .i64 s1), (26, .bool false)]) (H' := []) rfl rfl ?_
     refine RW.cond_f rfl (RW.skip (RW.reg (rl.run 3 rfl (rl.done ?_))))
     cases h11
     exact hB2 _ rfl _ _ (Gh.ren0 [] .nil rfl (.cons rfl (.dat (ek_TSeg.rlst)) (.cons rfl (.dat (ek_TSeg.rlst)) (.cons rfl (.dat .int) .nil))))
  ·intro y2 hC
   have h3 := elimR h3 hC
   refine RW.sreg (rl.run 1 rfl (rl.done (RW.ret ?_)))
   cases h3
   exact RRet.mk rfl .bool (by first | decide | simp)
 ·have h12 := iteBT hF hb
  refine rl.done (RW.cond_t rfl (RW.sreg (rl.run 1 rfl (rl.done (RW.ret ?_)))))
  cases h12
  exact RRet.mk rfl .bool (by first | decide | simp)
theorem law_laws_eqLog {x0 : TLog} {x1 : TLog} {r : Bool} (hF : F_laws_eqLog x0 x1 = some r) : PCalls Tryz.prog 21 [.agg (enc_TLog false x0), .agg (enc_TLog false x1)] (.bool r) := by
 refine PCalls.of_r k_laws_eqLog rfl ?_
 unfold F_laws_eqLog at hF
 refine RW.sreg (rl.run 3 rfl (rl.done (RW.seq (RW.sreg (rl.run 4 rfl ?_)))))
 obtain ⟨v1, e1, h1⟩ := bindS hF
 refine rl.call rfl rfl rfl (CallW.val (r' := .bool v1) ok_laws_eqDisk (law_laws_eqDisk e1) (.cons (DFL.agg (.cons (.lst ekS) (.cons (.lst ek_TWrite) .nil))) (.cons (DFL.agg (.cons (.lst ekS) (.cons (.lst ek_TWrite) .nil))) .nil)) .refl ?_)
 cases hb : v1
 ·have h2 := iteBF h1 hb
  refine rl.run 1 rfl (rl.done (RW.cond_t rfl (RW.sreg (rl.run 1 rfl (rl.done (RW.ret ?_))))))
  cases h2
  exact RRet.mk rfl .bool (by first | decide | simp)
 ·have h3 := iteBT h1 hb
  refine rl.run 1 rfl (rl.done (RW.cond_f rfl (RW.skip (RW.seq (RW.sreg (rl.run 4 rfl ?_))))))
  refine rl.gen rfl rfl fun b hb => ?_
  cases b
  ·have h4 := iteBF h3 hb
   refine rl.done ?_
   refine RW.keep [2, 3, 15] (a' := [(2, .ptr 0 0), (3, .ptr 1 0), (15, .bool false)]) (H' := [some ⟨[.lst false 1 (fl (encS false) x0.Disk.Sectors) x0.Disk.Sectors.length, .lst false 2 (fl (enc_TWrite false) x0.Disk.Cache) x0.Disk.Cache.length, .int .i64 x0.Segs, .lst false 4 (fl (enc_TSeg false) x0.Used) x0.Used.length, .int .i64 x0.NextGen, .int .i64 x0.NextSeq, .int .i64 x0.Stamp, .int .i64 x0.NextValid], 0⟩, some ⟨[.lst false 1 (fl (encS false) x1.Disk.Sectors) x1.Disk.Sectors.length, .lst false 2 (fl (enc_TWrite false) x1.Disk.Cache) x1.Disk.Cache.length, .int .i64 x1.Segs, .lst false 4 (fl (enc_TSeg false) x1.Used) x1.Used.length, .int .i64 x1.NextGen, .int .i64 x1.NextSeq, .int .i64 x1.Stamp, .int .i64 x1.NextValid], 0⟩]) rfl rfl ?_
   refine RW.cond_f rfl (RW.skip (RW.seq (RW.sreg (rl.run 4 rfl ?_))))
   obtain ⟨v2, e2, h5⟩ := bindS h4
   refine rl.call rfl rfl rfl (CallW.val (r' := .bool v2) ok_laws_eqSegS (law_laws_eqSegS e2) (.cons (.lst ek_TSeg) (.cons (.lst ek_TSeg) .nil)) .refl ?_)
   cases hb : v2
   ·have h6 := iteBF h5 hb
    refine rl.run 1 rfl (rl.done (RW.cond_t rfl (RW.sreg (rl.run 1 rfl (rl.done (RW.ret ?_))))))
    cases h6
    exact RRet.mk rfl .bool (by first | decide | simp)
   ·have h7 := iteBT h5 hb
    refine rl.run 1 rfl (rl.done (RW.cond_f rfl (RW.skip (RW.seq (RW.sreg (rl.run 4 rfl ?_))))))
    refine rl.gen rfl rfl fun b hb => ?_
    cases b
    ·have h8 := iteBF h7 hb
     refine rl.done ?_
     refine RW.keep [2, 3, 26] (a' := [(2, .ptr 0 0), (3, .ptr 1 0), (26, .bool false)]) (H' := [some ⟨[.lst false 1 (fl (encS false) x0.Disk.Sectors) x0.Disk.Sectors.length, .lst false 2 (fl (enc_TWrite false) x0.Disk.Cache) x0.Disk.Cache.length, .int .i64 x0.Segs, .lst false 4 (fl (enc_TSeg false) x0.Used) x0.Used.length, .int .i64 x0.NextGen, .int .i64 x0.NextSeq, .int .i64 x0.Stamp, .int .i64 x0.NextValid], 0⟩, some ⟨[.lst false 1 (fl (encS false) x1.Disk.Sectors) x1.Disk.Sectors.length, .lst false 2 (fl (enc_TWrite false) x1.Disk.Cache) x1.Disk.Cache.length, .int .i64 x1.Segs, .lst false 4 (fl (enc_TSeg false) x1.Used) x1.Used.length, .int .i64 x1.NextGen, .int .i64 x1.NextSeq, .int .i64 x1.Stamp, .int .i64 x1.NextValid], 0⟩]) rfl rfl ?_
     refine RW.cond_f rfl (RW.skip (RW.seq (RW.sreg (rl.run 4 rfl ?_))))
     refine rl.gen rfl rfl fun b hb => ?_
     cases b
     ·have h9 := iteBF h8 hb
      refine rl.done (RW.cond_f rfl (RW.skip (RW.seq (RW.sreg (rl.run 4 rfl ?_)))))
      refine rl.gen rfl rfl fun b hb => ?_
      cases b
      ·have h10 := iteBF h9 hb
       refine rl.done (RW.cond_f rfl (RW.skip (RW.seq (RW.sreg (rl.run 4 rfl ?_)))))
       refine rl.gen rfl rfl fun b hb => ?_
       cases b
       ·have h11 := iteBF h10 hb
        refine rl.done ?_
        refine RW.keep [41] (a' := [(41, .bool false)]) (H' := [some ⟨[.lst false 1 (fl (encS false) x0.Disk.Sectors) x0.Disk.Sectors.length, .lst false 2 (fl (enc_TWrite false) x0.Disk.Cache) x0.Disk.Cache.length, .int .i64 x0.Segs, .lst false 4 (fl (enc_TSeg false) x0.Used) x0.Used.length, .int .i64 x0.NextGen, .int .i64 x0.NextSeq, .int .i64 x0.Stamp, .int .i64 x0.NextValid], 0⟩, some ⟨[.lst false 1 (fl (encS false) x1.Disk.Sectors) x1.Disk.Sectors.length, .lst false 2 (fl (enc_TWrite false) x1.Disk.Cache) x1.Disk.Cache.length, .int .i64 x1.Segs, .lst false 4 (fl (enc_TSeg false) x1.Used) x1.Used.length, .int .i64 x1.NextGen, .int .i64 x1.NextSeq, .int .i64 x1.Stamp, .int .i64 x1.NextValid], 0⟩]) rfl rfl ?_
        refine RW.cond_f rfl (RW.skip (RW.sreg (rl.run 1 rfl (rl.done (RW.ret ?_)))))
        cases h11
        exact RRet.mk rfl .bool (by first | decide | simp)
       ·have h12 := iteBT h10 hb
        refine rl.done ?_
        refine RW.keep [41] (a' := [(41, .bool true)]) (H' := [some ⟨[.lst false 1 (fl (encS false) x0.Disk.Sectors) x0.Disk.Sectors.length, .lst false 2 (fl (enc_TWrite false) x0.Disk.Cache) x0.Disk.Cache.length, .int .i64 x0.Segs, .lst false 4 (fl (enc_TSeg false) x0.Used) x0.Used.length, .int .i64 x0.NextGen, .int .i64 x0.NextSeq, .int .i64 x0.Stamp, .int .i64 x0.NextValid], 0⟩, some ⟨[.lst false 1 (fl (encS false) x1.Disk.Sectors) x1.Disk.Sectors.length, .lst false 2 (fl (enc_TWrite false) x1.Disk.Cache) x1.Disk.Cache.length, .int .i64 x1.Segs, .lst false 4 (fl (enc_TSeg false) x1.Used) x1.Used.length, .int .i64 x1.NextGen, .int .i64 x1.NextSeq, .int .i64 x1.Stamp, .int .i64 x1.NextValid], 0⟩]) rfl rfl ?_
        refine RW.cond_t rfl (RW.sreg (rl.run 1 rfl (rl.done (RW.ret ?_))))
        cases h12
        exact RRet.mk rfl .bool (by first | decide | simp)
      ·have h13 := iteBT h9 hb
       refine rl.done (RW.cond_t rfl (RW.sreg (rl.run 1 rfl (rl.done ?_))))
       refine RW.keep [4] (a' := [(4, .bool false)]) (H' := [some ⟨[.lst false 1 (fl (encS false) x0.Disk.Sectors) x0.Disk.Sectors.length, .lst false 2 (fl (enc_TWrite false) x0.Disk.Cache) x0.Disk.Cache.length, .int .i64 x0.Segs, .lst false 4 (fl (enc_TSeg false) x0.Used) x0.Used.length, .int .i64 x0.NextGen, .int .i64 x0.NextSeq, .int .i64 x0.Stamp, .int .i64 x0.NextValid], 0⟩, some ⟨[.lst false 1 (fl (encS false) x1.Disk.Sectors) x1.Disk.Sectors.length, .lst false 2 (fl (enc_TWrite false) x1.Disk.Cache) x1.Disk.Cache.length, .int .i64 x1.Segs, .lst false 4 (fl (enc_TSeg false) x1.Used) x1.Used.length, .int .i64 x1.NextGen, .int .i64 x1.NextSeq, .int .i64 x1.Stamp, .int .i64 x1.NextValid], 0⟩]) rfl rfl ?_
       refine RW.ret ?_
       cases h13
       exact RRet.mk rfl .bool (by first | decide | simp)
     ·have h14 := iteBT h8 hb
      refine rl.done (RW.cond_t rfl (RW.sreg (rl.run 1 rfl (rl.done (RW.ret ?_)))))
      cases h14
      exact RRet.mk rfl .bool (by first | decide | simp)
    ·have h15 := iteBT h7 hb
     refine rl.done ?_
     refine RW.keep [2, 3, 26] (a' := [(2, .ptr 0 0), (3, .ptr 1 0), (26, .bool true)]) (H' := [some ⟨[.lst false 1 (fl (encS false) x0.Disk.Sectors) x0.Disk.Sectors.length, .lst false 2 (fl (enc_TWrite false) x0.Disk.Cache) x0.Disk.Cache.length, .int .i64 x0.Segs, .lst false 4 (fl (enc_TSeg false) x0.Used) x0.Used.length, .int .i64 x0.NextGen, .int .i64 x0.NextSeq, .int .i64 x0.Stamp, .int .i64 x0.NextValid], 0⟩, some ⟨[.lst false 1 (fl (encS false) x1.Disk.Sectors) x1.Disk.Sectors.length, .lst false 2 (fl (enc_TWrite false) x1.Disk.Cache) x1.Disk.Cache.length, .int .i64 x1.Segs, .lst false 4 (fl (enc_TSeg false) x1.Used) x1.Used.length, .int .i64 x1.NextGen, .int .i64 x1.NextSeq, .int .i64 x1.Stamp, .int .i64 x1.NextValid], 0⟩]) rfl rfl ?_
     refine RW.cond_t rfl (RW.sreg (rl.run 1 rfl (rl.done (RW.ret ?_))))
     cases h15
     exact RRet.mk rfl .bool (by first | decide | simp)
  ·have h16 := iteBT h3 hb
   refine rl.done ?_
   refine RW.keep [2, 3, 15] (a' := [(2, .ptr 0 0), (3, .ptr 1 0), (15, .bool true)]) (H' := [some ⟨[.lst false 1 (fl (encS false) x0.Disk.Sectors) x0.Disk.Sectors.length, .lst false 2 (fl (enc_TWrite false) x0.Disk.Cache) x0.Disk.Cache.length, .int .i64 x0.Segs, .lst false 4 (fl (enc_TSeg false) x0.Used) x0.Used.length, .int .i64 x0.NextGen, .int .i64 x0.NextSeq, .int .i64 x0.Stamp, .int .i64 x0.NextValid], 0⟩, some ⟨[.lst false 1 (fl (encS false) x1.Disk.Sectors) x1.Disk.Sectors.length, .lst false 2 (fl (enc_TWrite false) x1.Disk.Cache) x1.Disk.Cache.length, .int .i64 x1.Segs, .lst false 4 (fl (enc_TSeg false) x1.Used) x1.Used.length, .int .i64 x1.NextGen, .int .i64 x1.NextSeq, .int .i64 x1.Stamp, .int .i64 x1.NextValid], 0⟩]) rfl rfl ?_
   refine RW.cond_t rfl (RW.sreg (rl.run 1 rfl (rl.done (RW.ret ?_))))
   cases h16
   exact RRet.mk rfl .bool (by first | decide | simp)
theorem law_laws_eqIntS {x0 : List Int} {x1 : List Int} {r : Bool} (hF : F_laws_eqIntS x0 x1 = some r) : PCalls Tryz.prog 22 [.lst false 1 (fl (encI false) x0) x0.length, .lst false 1 (fl (encI false) x1) x1.length] (.bool r) := by
 refine PCalls.of_r k_laws_eqIntS rfl ?_
 unfold F_laws_eqIntS at hF
 refine RW.sreg (rl.run 1 rfl (rl.done (RW.seq (RW.sreg (rl.run 4 rfl ?_)))))
 refine rl.gen rfl rfl fun b hb => ?_
 cases b
 ·have h1 := iteBF hF hb
  refine rl.done (RW.cond_f rfl (RW.skip (RW.seq (RW.sreg (rl.run 1 rfl (rl.done ?_))))))
  obtain ⟨y5, ey5, h3⟩ := bindS h1
  refine RW.cutq (σ := Unit) (fun y2 => []) (fun y2 => []) (fun y => y5 = .inr y) (fun _ _ _ _ g h => RW.gh g h) ?_ ?_
  ·refine RW.blk ?_
   refine RW.iter (σ := Int) ey5 (fun s1 => [(0, .lst false 1 (fl (encI false) x0) x0.length), (1, .lst false 1 (fl (encI false) x1) x1.length), (5, .int .i64 s1)]) (fun s1 => []) (Gh.ren0 [] .nil rfl (.cons rfl (.dat (ekI.rlst)) (.cons rfl (.dat (ekI.rlst)) (.cons rfl (.dat .int) .nil)))) (fun s1 B o hS2 hB2 hE2 => ?_)
   unfold S_laws_eqIntS_1 at hS2
   refine RW.seq (RW.sreg (rl.run 3 rfl ?_))
   refine rl.gen rfl rfl fun b hb => ?_
   cases b
   ·have h4 := iteBF hS2 hb
    refine rl.done (RW.cond_f rfl (RW.exit (blkA_eq ?_)))
    cases h4
    exact ⟨_, (hE2 _ rfl).symm, (Gh.ren0 [] .nil rfl .nil)⟩
   ·have h5 := iteBT hS2 hb
    refine rl.done (RW.cond_t rfl (RW.skip (RW.seq (RW.blk (RW.sdrw (rdraw.op rfl rfl (rdraw.op rfl rfl ?_)))))))
    obtain ⟨v3, e3, h6⟩ := bindS h5
    refine rdraw.op rfl (x_ia_lst (enc := encI) (o := false) rfl rfl rfl e3) ?_
    refine rdraw.op rfl (x_ld_el (off' := 0) ekI rfl e3 rfl rfl rfl) ?_
    refine rdraw.op rfl rfl (rdraw.op rfl rfl ?_)
    obtain ⟨v4, e4, h7⟩ := bindS h6
    refine rdraw.op rfl (x_ia_lst (enc := encI) (o := false) rfl rfl rfl e4) ?_
    refine rdraw.op rfl (x_ld_el (off' := 0) ekI rfl e4 rfl rfl rfl) ?_
    refine rdraw.gen rfl rfl fun b hb => ?_
    cases b
    ·have h8 := iteBF h7 hb
     refine rdraw.done ?_
     refine RW.keep [0, 1, 5, 25] (a' := [(0, .lst false 1 (fl (encI false) x0) x0.length), (1, .lst false 1 (fl (encI false) x1) x1.length), (5, .int .i64 s1), (25, .bool false)]) (H' := []) rfl rfl ?_
     refine RW.cond_f rfl (RW.skip (RW.reg (rl.run 3 rfl (rl.done ?_))))
     cases h8
     exact hB2 _ rfl _ _ (Gh.ren0 [] .nil rfl (.cons rfl (.dat (ekI.rlst)) (.cons rfl (.dat (ekI.rlst)) (.cons rfl (.dat .int) .nil))))
    ·have h9 := iteBT h7 hb
     refine rdraw.done ?_
     refine RW.keep [0, 1, 5, 25] (a' := [(0, .lst false 1 (fl (encI false) x0) x0.length), (1, .lst false 1 (fl (encI false) x1) x1.length), (5, .int .i64 s1), (25, .bool true)]) (H' := []) rfl rfl ?_
     refine RW.cond_t rfl (RW.sreg (rl.run 1 rfl (rl.done (RW.ret ?_))))
     cases h9
     have h10 := elimL h3 (hE2 _ rfl)
     cases h10
     exact RRet.mk rfl .bool (by first | decide | simp)
  ·intro y2 hC
   have h3 := elimR h3 hC
   refine RW.sreg (rl.run 1 rfl (rl.done (RW.ret ?_)))
   cases h3
   exact RRet.mk rfl .bool (by first | decide | simp)
 ·have h11 := iteBT hF hb
  refine rl.done (RW.cond_t rfl (RW.sreg (rl.run 1 rfl (rl.done (RW.ret ?_)))))
  cases h11
  exact RRet.mk rfl .bool (by first | decide | simp)
theorem law_laws_eqStore {x0 : TStore} {x1 : TStore} {r : Bool} (hF : F_laws_eqStore x0 x1 = some r) : PCalls Tryz.prog 10 [.agg (enc_TStore false x0), .agg (enc_TStore false x1)] (.bool r) := by
 refine PCalls.of_r k_laws_eqStore rfl ?_
 unfold F_laws_eqStore at hF
 refine RW.sreg (rl.run 3 rfl (rl.done (RW.seq (RW.sreg (rl.run 4 rfl ?_)))))
 obtain ⟨v1, e1, h1⟩ := bindS hF
 refine rl.call rfl rfl rfl (CallW.val (r' := .bool v1) ok_laws_eqLog (law_laws_eqLog e1) (.cons (DFL.agg (.cons (.lst ekS) (.cons (.lst ek_TWrite) (.cons .int (.cons (.lst ek_TSeg) (.cons .int (.cons .int (.cons .int (.cons .int .nil))))))))) (.cons (DFL.agg (.cons (.lst ekS) (.cons (.lst ek_TWrite) (.cons .int (.cons (.lst ek_TSeg) (.cons .int (.cons .int (.cons .int (.cons .int .nil))))))))) .nil)) .refl ?_)
 cases hb : v1
 ·have h2 := iteBF h1 hb
  refine rl.run 1 rfl (rl.done (RW.cond_t rfl (RW.sreg (rl.run 1 rfl (rl.done (RW.ret ?_))))))
  cases h2
  exact RRet.mk rfl .bool (by first | decide | simp)
 ·have h3 := iteBT h1 hb
  refine rl.run 1 rfl (rl.done (RW.cond_f rfl (RW.skip (RW.seq (RW.sreg (rl.run 4 rfl ?_))))))
  obtain ⟨v2, e2, h4⟩ := bindS h3
  refine rl.call rfl rfl rfl (CallW.val (r' := .bool v2) ok_laws_eqIntS (law_laws_eqIntS e2) (.cons (.lst ekI) (.cons (.lst ekI) .nil)) .refl ?_)
  cases hb : v2
  ·have h5 := iteBF h4 hb
   refine rl.run 1 rfl (rl.done ?_)
   refine RW.keep [16] (a' := [(16, .bool true)]) (H' := [some ⟨[.lst false 1 (fl (encS false) x0.Log.Disk.Sectors) x0.Log.Disk.Sectors.length, .lst false 2 (fl (enc_TWrite false) x0.Log.Disk.Cache) x0.Log.Disk.Cache.length, .int .i64 x0.Log.Segs, .lst false 4 (fl (enc_TSeg false) x0.Log.Used) x0.Log.Used.length, .int .i64 x0.Log.NextGen, .int .i64 x0.Log.NextSeq, .int .i64 x0.Log.Stamp, .int .i64 x0.Log.NextValid, .lst false 1 (fl (encI false) x0.Freed) x0.Freed.length], 0⟩, some ⟨[.lst false 1 (fl (encS false) x1.Log.Disk.Sectors) x1.Log.Disk.Sectors.length, .lst false 2 (fl (enc_TWrite false) x1.Log.Disk.Cache) x1.Log.Disk.Cache.length, .int .i64 x1.Log.Segs, .lst false 4 (fl (enc_TSeg false) x1.Log.Used) x1.Log.Used.length, .int .i64 x1.Log.NextGen, .int .i64 x1.Log.NextSeq, .int .i64 x1.Log.Stamp, .int .i64 x1.Log.NextValid, .lst false 1 (fl (encI false) x1.Freed) x1.Freed.length], 0⟩]) rfl rfl ?_
   refine RW.cond_t rfl (RW.sreg (rl.run 1 rfl (rl.done (RW.ret ?_))))
   cases h5
   exact RRet.mk rfl .bool (by first | decide | simp)
  ·have h6 := iteBT h4 hb
   refine rl.run 1 rfl (rl.done ?_)
   refine RW.keep [16] (a' := [(16, .bool false)]) (H' := [some ⟨[.lst false 1 (fl (encS false) x0.Log.Disk.Sectors) x0.Log.Disk.Sectors.length, .lst false 2 (fl (enc_TWrite false) x0.Log.Disk.Cache) x0.Log.Disk.Cache.length, .int .i64 x0.Log.Segs, .lst false 4 (fl (enc_TSeg false) x0.Log.Used) x0.Log.Used.length, .int .i64 x0.Log.NextGen, .int .i64 x0.Log.NextSeq, .int .i64 x0.Log.Stamp, .int .i64 x0.Log.NextValid, .lst false 1 (fl (encI false) x0.Freed) x0.Freed.length], 0⟩, some ⟨[.lst false 1 (fl (encS false) x1.Log.Disk.Sectors) x1.Log.Disk.Sectors.length, .lst false 2 (fl (enc_TWrite false) x1.Log.Disk.Cache) x1.Log.Disk.Cache.length, .int .i64 x1.Log.Segs, .lst false 4 (fl (enc_TSeg false) x1.Log.Used) x1.Log.Used.length, .int .i64 x1.Log.NextGen, .int .i64 x1.Log.NextSeq, .int .i64 x1.Log.Stamp, .int .i64 x1.Log.NextValid, .lst false 1 (fl (encI false) x1.Freed) x1.Freed.length], 0⟩]) rfl rfl ?_
   refine RW.cond_f rfl (RW.skip (RW.sreg (rl.run 1 rfl (rl.done (RW.ret ?_)))))
   cases h6
   exact RRet.mk rfl .bool (by first | decide | simp)
theorem law_laws_szStringS {x0 : List (List UInt8)} {x1 : Int} {r : Int} (hF : F_laws_szStringS x0 x1 = some r) : PCalls Tryz.prog 43 [.lst false 1 (fl (encS false) x0) x0.length, .int .i64 x1] (.int .i64 r) := by
 refine PCalls.of_r k_laws_szStringS rfl ?_
 unfold F_laws_szStringS at hF
 refine RW.sreg (rl.run 1 rfl (rl.done (RW.sreg (rl.run 5 rfl (rl.done (RW.seq (RW.sreg (rl.run 1 rfl ?_))))))))
 refine rl.gen rfl rfl fun b hb => ?_
 cases b
 ·have h1 := iteBF hF hb
  refine rl.done (RW.cond_f rfl (RW.skip (RW.seq (RW.sreg (rl.run 1 rfl (rl.done ?_))))))
  obtain ⟨y4, ey4, h3⟩ := bindS h1
  refine RW.cutq (σ := Int) (fun y2 => [(1, .int .i64 y2)]) (fun y2 => []) (fun y => y4 = .inr y) (fun _ _ _ _ g h => RW.gh g h) ?_ ?_
  ·refine RW.blk ?_
   refine RW.iter (σ := Int × Int) ey4 (fun s1 => [(0, .lst false 1 (fl (encS false) x0) x0.length), (1, .int .i64 s1.1), (5, .int .i64 s1.2)]) (fun s1 => []) (Gh.ren0 [] .nil rfl (.cons rfl (.dat (ekS.rlst)) (.cons rfl (.dat .int) (.cons rfl (.dat .int) .nil)))) (fun s1 B o hS2 hB2 hE2 => ?_)
   unfold S_laws_szStringS_1 at hS2
   refine RW.seq (RW.sreg (rl.run 3 rfl ?_))
   refine rl.gen rfl rfl fun b hb => ?_
   cases b
   ·have h4 := iteBF hS2 hb
    refine rl.done (RW.cond_f rfl (RW.exit (blkA_eq ?_)))
    cases h4
    exact ⟨_, (hE2 _ rfl).symm, (Gh.ren0 [] .nil rfl (.cons rfl (.dat .int) .nil))⟩
   ·have h5 := iteBT hS2 hb
    refine rl.done (RW.cond_t rfl (RW.skip (RW.seq (RW.blk (RW.sreg (rl.run 3 rfl ?_))))))
    obtain ⟨v3, e3, h6⟩ := bindS h5
    refine rl.op (x_ia_lst (enc := encS) (o := false) rfl rfl rfl e3) ?_
    refine rl.op (x_ld_el (off' := 0) ekS rfl e3 rfl rfl rfl) ?_
    refine rl.run 3 rfl (rl.done ?_)
    refine RW.keep [0, 1, 5] (a' := [(0, .lst false 1 (fl (encS false) x0) x0.length), (1, .int .i64 (w64 (s1.1 - (v3.length : Int)))), (5, .int .i64 s1.2)]) (H' := []) rfl rfl ?_
    refine RW.sreg (rl.run 1 rfl ?_)
    refine rl.gen rfl rfl fun b hb => ?_
    cases b
    ·have h7 := iteBF h6 hb
     refine rl.done (RW.cond_f rfl (RW.skip (RW.reg (rl.run 3 rfl (rl.done ?_)))))
     cases h7
     exact hB2 _ rfl _ _ (Gh.ren0 [] .nil rfl (.cons rfl (.dat (ekS.rlst)) (.cons rfl (.dat .int) (.cons rfl (.dat .int) .nil))))
    ·have h8 := iteBT h6 hb
     refine rl.done (RW.cond_t rfl (RW.sreg (rl.run 1 rfl (rl.done (RW.ret ?_)))))
     cases h8
     have h9 := elimL h3 (hE2 _ rfl)
     cases h9
     exact RRet.mk rfl .int (by first | decide | simp)
  ·intro y2 hC
   have h3 := elimR h3 hC
   refine RW.sreg (rl.run 2 rfl (rl.done (RW.ret ?_)))
   cases h3
   exact RRet.mk rfl .int (by first | decide | simp)
 ·have h10 := iteBT hF hb
  refine rl.done (RW.cond_t rfl (RW.sreg (rl.run 1 rfl (rl.done (RW.ret ?_)))))
  cases h10
  exact RRet.mk rfl .int (by first | decide | simp)
theorem law_laws_szWrite {x0 : TWrite} {x1 : Int} {r : Int} (hF : F_laws_szWrite x0 x1 = some r) : PCalls Tryz.prog 63 [.agg (enc_TWrite false x0), .int .i64 x1] (.int .i64 r) := by
 refine PCalls.of_r k_laws_szWrite rfl ?_
 unfold F_laws_szWrite at hF
 refine RW.sreg (rl.run 2 rfl (rl.done (RW.sreg (rl.run 6 rfl (rl.done (RW.seq (RW.sreg (rl.run 1 rfl ?_))))))))
 refine rl.gen rfl rfl fun b hb => ?_
 cases b
 ·have h1 := iteBF hF hb
  refine rl.done (RW.cond_f rfl (RW.skip (RW.sreg (rl.run 2 rfl (rl.done ?_)))))
  refine RW.keep [4] (a' := [(4, .int .i64 (w64 (x1 - (x0.Text.length : Int))))]) (H' := [some ⟨[.int .i64 x0.At, .str x0.Text], 0⟩]) rfl rfl ?_
  refine RW.ret ?_
  cases h1
  exact RRet.mk rfl .int (by first | decide | simp)
 ·have h2 := iteBT hF hb
  refine rl.done (RW.cond_t rfl (RW.sreg (rl.run 1 rfl (rl.done (RW.ret ?_)))))
  cases h2
  exact RRet.mk rfl .int (by first | decide | simp)
theorem law_laws_szWriteS {x0 : List TWrite} {x1 : Int} {r : Int} (hF : F_laws_szWriteS x0 x1 = some r) : PCalls Tryz.prog 44 [.lst false 2 (fl (enc_TWrite false) x0) x0.length, .int .i64 x1] (.int .i64 r) := by
 refine PCalls.of_r k_laws_szWriteS rfl ?_
 unfold F_laws_szWriteS at hF
 refine RW.sreg (rl.run 1 rfl (rl.done (RW.sreg (rl.run 5 rfl (rl.done (RW.seq (RW.sreg (rl.run 1 rfl ?_))))))))
 refine rl.gen rfl rfl fun b hb => ?_
 cases b
 ·have h1 := iteBF hF hb
  refine rl.done (RW.cond_f rfl (RW.skip (RW.seq (RW.sreg (rl.run 1 rfl (rl.done ?_))))))
  obtain ⟨y5, ey5, h3⟩ := bindS h1
  refine RW.cutq (σ := Int) (fun y2 => [(1, .int .i64 y2)]) (fun y2 => []) (fun y => y5 = .inr y) (fun _ _ _ _ g h => RW.gh g h) ?_ ?_
  ·refine RW.blk ?_
   refine RW.iter (σ := Int × Int) ey5 (fun s1 => [(0, .lst false 2 (fl (enc_TWrite false) x0) x0.length), (1, .int .i64 s1.1), (5, .int .i64 s1.2)]) (fun s1 => []) (Gh.ren0 [] .nil rfl (.cons rfl (.dat (ek_TWrite.rlst)) (.cons rfl (.dat .int) (.cons rfl (.dat .int) .nil)))) (fun s1 B o hS2 hB2 hE2 => ?_)
   unfold S_laws_szWriteS_1 at hS2
   refine RW.seq (RW.sreg (rl.run 3 rfl ?_))
   refine rl.gen rfl rfl fun b hb => ?_
   cases b
   ·have h4 := iteBF hS2 hb
    refine rl.done (RW.cond_f rfl (RW.exit (blkA_eq ?_)))
    cases h4
    exact ⟨_, (hE2 _ rfl).symm, (Gh.ren0 [] .nil rfl (.cons rfl (.dat .int) .nil))⟩
   ·have h5 := iteBT hS2 hb
    refine rl.done (RW.cond_t rfl (RW.skip (RW.seq (RW.blk (RW.sreg (rl.run 2 rfl ?_))))))
    obtain ⟨v3, e3, h6⟩ := bindS h5
    refine rl.op (x_ia_lst (enc := enc_TWrite) (o := false) rfl rfl rfl e3) ?_
    refine rl.op (x_ld_ela (off' := 0) (vs := (enc_TWrite false v3)) ek_TWrite rfl e3 rfl rfl rfl) ?_
    refine rl.run 1 rfl ?_
    obtain ⟨v4, e4, h7⟩ := bindS h6
    refine rl.call rfl rfl rfl (CallW.val (r' := .int .i64 v4) ok_laws_szWrite (law_laws_szWrite e4) (.cons (.dat (.agg (ek_TWrite.dat false _))) (.cons .int .nil)) .refl ?_)
    refine rl.run 1 rfl (rl.done (RW.sreg (rl.run 1 rfl ?_)))
    refine rl.gen rfl rfl fun b hb => ?_
    cases b
    ·have h8 := iteBF h7 hb
     refine rl.done ?_
     refine RW.keep [0, 1, 5, 25] (a' := [(0, .lst false 2 (fl (enc_TWrite false) x0) x0.length), (1, .int .i64 v4), (5, .int .i64 s1.2), (25, .bool false)]) (H' := []) rfl rfl ?_
     refine RW.cond_f rfl (RW.skip (RW.reg (rl.run 3 rfl (rl.done ?_))))
     cases h8
     exact hB2 _ rfl _ _ (Gh.ren0 [] .nil rfl (.cons rfl (.dat (ek_TWrite.rlst)) (.cons rfl (.dat .int) (.cons rfl (.dat .int) .nil))))
    ·have h9 := iteBT h7 hb
     refine rl.done ?_
     refine RW.keep [0, 1, 5, 25] (a' := [(0, .lst false 2 (fl (enc_TWrite false) x0) x0.length), (1, .int .i64 v4), (5, .int .i64 s1.2), (25, .bool true)]) (H' := []) rfl rfl ?_
     refine RW.cond_t rfl (RW.sreg (rl.run 1 rfl (rl.done (RW.ret ?_))))
     cases h9
     have h10 := elimL h3 (hE2 _ rfl)
     cases h10
     exact RRet.mk rfl .int (by first | decide | simp)
  ·intro y2 hC
   have h3 := elimR h3 hC
   refine RW.sreg (rl.run 2 rfl (rl.done (RW.ret ?_)))
   cases h3
   exact RRet.mk rfl .int (by first | decide | simp)
 ·have h11 := iteBT hF hb
  refine rl.done (RW.cond_t rfl (RW.sreg (rl.run 1 rfl (rl.done (RW.ret ?_)))))
  cases h11
  exact RRet.mk rfl .int (by first | decide | simp)
theorem law_laws_szDisk {x0 : TDisk} {x1 : Int} {r : Int} (hF : F_laws_szDisk x0 x1 = some r) : PCalls Tryz.prog 26 [.agg (enc_TDisk false x0), .int .i64 x1] (.int .i64 r) := by
 refine PCalls.of_r k_laws_szDisk rfl ?_
 unfold F_laws_szDisk at hF
 refine RW.sreg (rl.run 2 rfl (rl.done (RW.sreg (rl.run 3 rfl ?_))))
 obtain ⟨v1, e1, h1⟩ := bindS hF
 refine rl.call rfl rfl rfl (CallW.val (r' := .int .i64 v1) ok_laws_szStringS (law_laws_szStringS e1) (.cons (.lst ekS) (.cons .int .nil)) .refl ?_)
 refine rl.run 1 rfl (rl.done (RW.seq (RW.sreg (rl.run 1 rfl ?_))))
 refine rl.gen rfl rfl fun b hb => ?_
 cases b
 ·have h2 := iteBF h1 hb
  refine rl.done (RW.cond_f rfl (RW.skip (RW.sreg (rl.run 3 rfl ?_))))
  obtain ⟨v2, e2, h3⟩ := bindS h2
  refine rl.call rfl rfl rfl (CallW.val (r' := .int .i64 v2) ok_laws_szWriteS (law_laws_szWriteS e2) (.cons (.lst ek_TWrite) (.cons .int .nil)) .refl ?_)
  refine rl.run 1 rfl (rl.done ?_)
  refine RW.keep [1] (a' := [(1, .int .i64 v2)]) (H' := [some ⟨[.lst false 1 (fl (encS false) x0.Sectors) x0.Sectors.length, .lst false 2 (fl (enc_TWrite false) x0.Cache) x0.Cache.length], 0⟩]) rfl rfl ?_
  refine RW.seq (RW.sreg (rl.run 1 rfl ?_))
  refine rl.gen rfl rfl fun b hb => ?_
  cases b
  ·have h4 := iteBF h3 hb
   refine rl.done (RW.cond_f rfl (RW.skip (RW.sreg (rl.run 2 rfl (rl.done (RW.ret ?_))))))
   cases h4
   exact RRet.mk rfl .int (by first | decide | simp)
  ·have h5 := iteBT h3 hb
   refine rl.done (RW.cond_t rfl (RW.sreg (rl.run 1 rfl (rl.done (RW.ret ?_)))))
   cases h5
   exact RRet.mk rfl .int (by first | decide | simp)
 ·have h6 := iteBT h1 hb
  refine rl.done (RW.cond_t rfl (RW.sreg (rl.run 1 rfl (rl.done (RW.ret ?_)))))
  cases h6
  exact RRet.mk rfl .int (by first | decide | simp)
theorem law_laws_szRec {x0 : TRec} {x1 : Int} {r : Int} (hF : F_laws_szRec x0 x1 = some r) : PCalls Tryz.prog 102 [.agg (enc_TRec false x0), .int .i64 x1] (.int .i64 r) := by
 refine PCalls.of_r k_laws_szRec rfl ?_
 unfold F_laws_szRec at hF
 refine RW.sreg (rl.run 2 rfl (rl.done (RW.sreg (rl.run 6 rfl (rl.done (RW.seq (RW.sreg (rl.run 1 rfl ?_))))))))
 refine rl.gen rfl rfl fun b hb => ?_
 cases b
 ·have h1 := iteBF hF hb
  refine rl.done (RW.cond_f rfl (RW.skip (RW.sreg (rl.run 6 rfl (rl.done ?_)))))
  refine RW.keep [1, 2] (a' := [(1, .int .i64 (w64 ((w64 (x1 - (x0.User.length : Int))) - (x0.Name.length : Int)))), (2, .ptr 0 0)]) (H' := [some ⟨[.int .i64 x0.Kind, .int .i64 x0.Valid, .int .i64 x0.Uid, .int .i64 x0.Next, .int .i64 x0.Flags, .str x0.User, .str x0.Name, .str x0.Text], 0⟩]) rfl rfl ?_
  refine RW.seq (RW.sreg (rl.run 1 rfl ?_))
  refine rl.gen rfl rfl fun b hb => ?_
  cases b
  ·have h2 := iteBF h1 hb
   refine rl.done (RW.cond_f rfl (RW.skip (RW.sreg (rl.run 6 rfl (rl.done (RW.seq (RW.sreg (rl.run 1 rfl ?_))))))))
   refine rl.gen rfl rfl fun b hb => ?_
   cases b
   ·have h3 := iteBF h2 hb
    refine rl.done (RW.cond_f rfl (RW.skip (RW.sreg (rl.run 2 rfl (rl.done ?_)))))
    refine RW.keep [4] (a' := [(4, .int .i64 (w64 ((w64 ((w64 (x1 - (x0.User.length : Int))) - (x0.Name.length : Int))) - (x0.Text.length : Int))))]) (H' := [some ⟨[.int .i64 x0.Kind, .int .i64 x0.Valid, .int .i64 x0.Uid, .int .i64 x0.Next, .int .i64 x0.Flags, .str x0.User, .str x0.Name, .str x0.Text], 0⟩]) rfl rfl ?_
    refine RW.ret ?_
    cases h3
    exact RRet.mk rfl .int (by first | decide | simp)
   ·have h4 := iteBT h2 hb
    refine rl.done (RW.cond_t rfl (RW.sreg (rl.run 1 rfl (rl.done ?_))))
    refine RW.keep [4] (a' := [(4, .int .i64 (-1))]) (H' := [some ⟨[.int .i64 x0.Kind, .int .i64 x0.Valid, .int .i64 x0.Uid, .int .i64 x0.Next, .int .i64 x0.Flags, .str x0.User, .str x0.Name, .str x0.Text], 0⟩]) rfl rfl ?_
    refine RW.ret ?_
    cases h4
    exact RRet.mk rfl .int (by first | decide | simp)
  ·have h5 := iteBT h1 hb
   refine rl.done (RW.cond_t rfl (RW.sreg (rl.run 1 rfl (rl.done (RW.ret ?_)))))
   cases h5
   exact RRet.mk rfl .int (by first | decide | simp)
 ·have h6 := iteBT hF hb
  refine rl.done (RW.cond_t rfl (RW.sreg (rl.run 1 rfl (rl.done (RW.ret ?_)))))
  cases h6
  exact RRet.mk rfl .int (by first | decide | simp)
theorem law_laws_szItem {x0 : TItem} {x1 : Int} {r : Int} (hF : F_laws_szItem x0 x1 = some r) : PCalls Tryz.prog 83 [.agg (enc_TItem false x0), .int .i64 x1] (.int .i64 r) := by
 refine PCalls.of_r k_laws_szItem rfl ?_
 unfold F_laws_szItem at hF
 refine RW.sreg (rl.run 2 rfl (rl.done (RW.sreg (rl.run 3 rfl ?_))))
 obtain ⟨v1, e1, h1⟩ := bindS hF
 refine rl.call rfl rfl rfl (CallW.val (r' := .int .i64 v1) ok_laws_szRec (law_laws_szRec e1) (.cons (DFL.agg (.cons .int (.cons .int (.cons .int (.cons .int (.cons .int (.cons .str (.cons .str (.cons .str .nil))))))))) (.cons .int .nil)) .refl ?_)
 refine rl.run 1 rfl (rl.done (RW.seq (RW.sreg (rl.run 1 rfl ?_))))
 refine rl.gen rfl rfl fun b hb => ?_
 cases b
 ·have h2 := iteBF h1 hb
  refine rl.done (RW.cond_f rfl (RW.skip (RW.sreg (rl.run 2 rfl (rl.done (RW.ret ?_))))))
  cases h2
  exact RRet.mk rfl .int (by first | decide | simp)
 ·have h3 := iteBT h1 hb
  refine rl.done (RW.cond_t rfl (RW.sreg (rl.run 1 rfl (rl.done (RW.ret ?_)))))
  cases h3
  exact RRet.mk rfl .int (by first | decide | simp)
theorem law_laws_szItemS {x0 : List TItem} {x1 : Int} {r : Int} (hF : F_laws_szItemS x0 x1 = some r) : PCalls Tryz.prog 64 [.lst false 9 (fl (enc_TItem false) x0) x0.length, .int .i64 x1] (.int .i64 r) := by
 refine PCalls.of_r k_laws_szItemS rfl ?_
 unfold F_laws_szItemS at hF
 refine RW.sreg (rl.run 1 rfl (rl.done (RW.sreg (rl.run 5 rfl (rl.done (RW.seq (RW.sreg (rl.run 1 rfl ?_))))))))
 refine rl.gen rfl rfl fun b hb => ?_
 cases b
 ·have h1 := iteBF hF hb
  refine rl.done (RW.cond_f rfl (RW.skip (RW.seq (RW.sreg (rl.run 1 rfl (rl.done ?_))))))
  obtain ⟨y5, ey5, h3⟩ := bindS h1
  refine RW.cutq (σ := Int) (fun y2 => [(1, .int .i64 y2)]) (fun y2 => []) (fun y => y5 = .inr y) (fun _ _ _ _ g h => RW.gh g h) ?_ ?_
  ·refine RW.blk ?_
   refine RW.iter (σ := Int × Int) ey5 (fun s1 => [(0, .lst false 9 (fl (enc_TItem false) x0) x0.length), (1, .int .i64 s1.1), (5, .int .i64 s1.2)]) (fun s1 => []) (Gh.ren0 [] .nil rfl (.cons rfl (.dat (ek_TItem.rlst)) (.cons rfl (.dat .int) (.cons rfl (.dat .int) .nil)))) (fun s1 B o hS2 hB2 hE2 => ?_)
   unfold S_laws_szItemS_1 at hS2
   refine RW.seq (RW.sreg (rl.run 3 rfl ?_))
   refine rl.gen rfl rfl fun b hb => ?_
   cases b
   ·have h4 := iteBF hS2 hb
    refine rl.done (RW.cond_f rfl (RW.exit (blkA_eq ?_)))
    cases h4
    exact ⟨_, (hE2 _ rfl).symm, (Gh.ren0 [] .nil rfl (.cons rfl (.dat .int) .nil))⟩
   ·have h5 := iteBT hS2 hb
    refine rl.done (RW.cond_t rfl (RW.skip (RW.seq (RW.blk (RW.sreg (rl.run 2 rfl ?_))))))
    obtain ⟨v3, e3, h6⟩ := bindS h5
    refine rl.op (x_ia_lst (enc := enc_TItem) (o := false) rfl rfl rfl e3) ?_
    refine rl.op (x_ld_ela (off' := 0) (vs := (enc_TItem false v3)) ek_TItem rfl e3 rfl rfl rfl) ?_
    refine rl.run 1 rfl ?_
    obtain ⟨v4, e4, h7⟩ := bindS h6
    refine rl.call rfl rfl rfl (CallW.val (r' := .int .i64 v4) ok_laws_szItem (law_laws_szItem e4) (.cons (.dat (.agg (ek_TItem.dat false _))) (.cons .int .nil)) .refl ?_)
    refine rl.run 1 rfl (rl.done (RW.sreg (rl.run 1 rfl ?_)))
    refine rl.gen rfl rfl fun b hb => ?_
    cases b
    ·have h8 := iteBF h7 hb
     refine rl.done ?_
     refine RW.keep [0, 1, 5, 25] (a' := [(0, .lst false 9 (fl (enc_TItem false) x0) x0.length), (1, .int .i64 v4), (5, .int .i64 s1.2), (25, .bool false)]) (H' := []) rfl rfl ?_
     refine RW.cond_f rfl (RW.skip (RW.reg (rl.run 3 rfl (rl.done ?_))))
     cases h8
     exact hB2 _ rfl _ _ (Gh.ren0 [] .nil rfl (.cons rfl (.dat (ek_TItem.rlst)) (.cons rfl (.dat .int) (.cons rfl (.dat .int) .nil))))
    ·have h9 := iteBT h7 hb
     refine rl.done ?_
     refine RW.keep [0, 1, 5, 25] (a' := [(0, .lst false 9 (fl (enc_TItem false) x0) x0.length), (1, .int .i64 v4), (5, .int .i64 s1.2), (25, .bool true)]) (H' := []) rfl rfl ?_
     refine RW.cond_t rfl (RW.sreg (rl.run 1 rfl (rl.done (RW.ret ?_))))
     cases h9
     have h10 := elimL h3 (hE2 _ rfl)
     cases h10
     exact RRet.mk rfl .int (by first | decide | simp)
  ·intro y2 hC
   have h3 := elimR h3 hC
   refine RW.sreg (rl.run 2 rfl (rl.done (RW.ret ?_)))
   cases h3
   exact RRet.mk rfl .int (by first | decide | simp)
 ·have h11 := iteBT hF hb
  refine rl.done (RW.cond_t rfl (RW.sreg (rl.run 1 rfl (rl.done (RW.ret ?_)))))
  cases h11
  exact RRet.mk rfl .int (by first | decide | simp)
theorem law_laws_szSeg {x0 : TSeg} {x1 : Int} {r : Int} (hF : F_laws_szSeg x0 x1 = some r) : PCalls Tryz.prog 45 [.agg (enc_TSeg false x0), .int .i64 x1] (.int .i64 r) := by
 refine PCalls.of_r k_laws_szSeg rfl ?_
 unfold F_laws_szSeg at hF
 refine RW.sreg (rl.run 2 rfl (rl.done (RW.sreg (rl.run 3 rfl ?_))))
 obtain ⟨v1, e1, h1⟩ := bindS hF
 refine rl.call rfl rfl rfl (CallW.val (r' := .int .i64 v1) ok_laws_szItemS (law_laws_szItemS e1) (.cons (.lst ek_TItem) (.cons .int .nil)) .refl ?_)
 refine rl.run 1 rfl (rl.done (RW.seq (RW.sreg (rl.run 1 rfl ?_))))
 refine rl.gen rfl rfl fun b hb => ?_
 cases b
 ·have h2 := iteBF h1 hb
  refine rl.done (RW.cond_f rfl (RW.skip (RW.sreg (rl.run 2 rfl (rl.done (RW.ret ?_))))))
  cases h2
  exact RRet.mk rfl .int (by first | decide | simp)
 ·have h3 := iteBT h1 hb
  refine rl.done (RW.cond_t rfl (RW.sreg (rl.run 1 rfl (rl.done (RW.ret ?_)))))
  cases h3
  exact RRet.mk rfl .int (by first | decide | simp)
theorem law_laws_szSegS {x0 : List TSeg} {x1 : Int} {r : Int} (hF : F_laws_szSegS x0 x1 = some r) : PCalls Tryz.prog 27 [.lst false 4 (fl (enc_TSeg false) x0) x0.length, .int .i64 x1] (.int .i64 r) := by
 refine PCalls.of_r k_laws_szSegS rfl ?_
 unfold F_laws_szSegS at hF
 refine RW.sreg (rl.run 1 rfl (rl.done (RW.sreg (rl.run 5 rfl (rl.done (RW.seq (RW.sreg (rl.run 1 rfl ?_))))))))
 refine rl.gen rfl rfl fun b hb => ?_
 cases b
 ·have h1 := iteBF hF hb
  refine rl.done (RW.cond_f rfl (RW.skip (RW.seq (RW.sreg (rl.run 1 rfl (rl.done ?_))))))
  obtain ⟨y5, ey5, h3⟩ := bindS h1
  refine RW.cutq (σ := Int) (fun y2 => [(1, .int .i64 y2)]) (fun y2 => []) (fun y => y5 = .inr y) (fun _ _ _ _ g h => RW.gh g h) ?_ ?_
  ·refine RW.blk ?_
   refine RW.iter (σ := Int × Int) ey5 (fun s1 => [(0, .lst false 4 (fl (enc_TSeg false) x0) x0.length), (1, .int .i64 s1.1), (5, .int .i64 s1.2)]) (fun s1 => []) (Gh.ren0 [] .nil rfl (.cons rfl (.dat (ek_TSeg.rlst)) (.cons rfl (.dat .int) (.cons rfl (.dat .int) .nil)))) (fun s1 B o hS2 hB2 hE2 => ?_)
   unfold S_laws_szSegS_1 at hS2
   refine RW.seq (RW.sreg (rl.run 3 rfl ?_))
   refine rl.gen rfl rfl fun b hb => ?_
   cases b
   ·have h4 := iteBF hS2 hb
    refine rl.done (RW.cond_f rfl (RW.exit (blkA_eq ?_)))
    cases h4
    exact ⟨_, (hE2 _ rfl).symm, (Gh.ren0 [] .nil rfl (.cons rfl (.dat .int) .nil))⟩
   ·have h5 := iteBT hS2 hb
    refine rl.done (RW.cond_t rfl (RW.skip (RW.seq (RW.blk (RW.sreg (rl.run 2 rfl ?_))))))
    obtain ⟨v3, e3, h6⟩ := bindS h5
    refine rl.op (x_ia_lst (enc := enc_TSeg) (o := false) rfl rfl rfl e3) ?_
    refine rl.op (x_ld_ela (off' := 0) (vs := (enc_TSeg false v3)) ek_TSeg rfl e3 rfl rfl rfl) ?_
    refine rl.run 1 rfl ?_
    obtain ⟨v4, e4, h7⟩ := bindS h6
    refine rl.call rfl rfl rfl (CallW.val (r' := .int .i64 v4) ok_laws_szSeg (law_laws_szSeg e4) (.cons (.dat (.agg (ek_TSeg.dat false _))) (.cons .int .nil)) .refl ?_)
    refine rl.run 1 rfl (rl.done (RW.sreg (rl.run 1 rfl ?_)))
    refine rl.gen rfl rfl fun b hb => ?_
    cases b
    ·have h8 := iteBF h7 hb
     refine rl.done ?_
     refine RW.keep [0, 1, 5, 25] (a' := [(0, .lst false 4 (fl (enc_TSeg false) x0) x0.length), (1, .int .i64 v4), (5, .int .i64 s1.2), (25, .bool false)]) (H' := []) rfl rfl ?_
     refine RW.cond_f rfl (RW.skip (RW.reg (rl.run 3 rfl (rl.done ?_))))
     cases h8
     exact hB2 _ rfl _ _ (Gh.ren0 [] .nil rfl (.cons rfl (.dat (ek_TSeg.rlst)) (.cons rfl (.dat .int) (.cons rfl (.dat .int) .nil))))
    ·have h9 := iteBT h7 hb
     refine rl.done ?_
     refine RW.keep [0, 1, 5, 25] (a' := [(0, .lst false 4 (fl (enc_TSeg false) x0) x0.length), (1, .int .i64 v4), (5, .int .i64 s1.2), (25, .bool true)]) (H' := []) rfl rfl ?_
     refine RW.cond_t rfl (RW.sreg (rl.run 1 rfl (rl.done (RW.ret ?_))))
     cases h9
     have h10 := elimL h3 (hE2 _ rfl)
     cases h10
     exact RRet.mk rfl .int (by first | decide | simp)
  ·intro y2 hC
   have h3 := elimR h3 hC
   refine RW.sreg (rl.run 2 rfl (rl.done (RW.ret ?_)))
   cases h3
   exact RRet.mk rfl .int (by first | decide | simp)
 ·have h11 := iteBT hF hb
  refine rl.done (RW.cond_t rfl (RW.sreg (rl.run 1 rfl (rl.done (RW.ret ?_)))))
  cases h11
  exact RRet.mk rfl .int (by first | decide | simp)
theorem law_laws_szLog {x0 : TLog} {x1 : Int} {r : Int} (hF : F_laws_szLog x0 x1 = some r) : PCalls Tryz.prog 15 [.agg (enc_TLog false x0), .int .i64 x1] (.int .i64 r) := by
 refine PCalls.of_r k_laws_szLog rfl ?_
 unfold F_laws_szLog at hF
 refine RW.sreg (rl.run 2 rfl (rl.done (RW.sreg (rl.run 3 rfl ?_))))
 obtain ⟨v1, e1, h1⟩ := bindS hF
 refine rl.call rfl rfl rfl (CallW.val (r' := .int .i64 v1) ok_laws_szDisk (law_laws_szDisk e1) (.cons (DFL.agg (.cons (.lst ekS) (.cons (.lst ek_TWrite) .nil))) (.cons .int .nil)) .refl ?_)
 refine rl.run 1 rfl (rl.done (RW.seq (RW.sreg (rl.run 1 rfl ?_))))
 refine rl.gen rfl rfl fun b hb => ?_
 cases b
 ·have h2 := iteBF h1 hb
  refine rl.done (RW.cond_f rfl (RW.skip (RW.sreg (rl.run 3 rfl ?_))))
  obtain ⟨v2, e2, h3⟩ := bindS h2
  refine rl.call rfl rfl rfl (CallW.val (r' := .int .i64 v2) ok_laws_szSegS (law_laws_szSegS e2) (.cons (.lst ek_TSeg) (.cons .int .nil)) .refl ?_)
  refine rl.run 1 rfl (rl.done ?_)
  refine RW.keep [1] (a' := [(1, .int .i64 v2)]) (H' := [some ⟨[.lst false 1 (fl (encS false) x0.Disk.Sectors) x0.Disk.Sectors.length, .lst false 2 (fl (enc_TWrite false) x0.Disk.Cache) x0.Disk.Cache.length, .int .i64 x0.Segs, .lst false 4 (fl (enc_TSeg false) x0.Used) x0.Used.length, .int .i64 x0.NextGen, .int .i64 x0.NextSeq, .int .i64 x0.Stamp, .int .i64 x0.NextValid], 0⟩]) rfl rfl ?_
  refine RW.seq (RW.sreg (rl.run 1 rfl ?_))
  refine rl.gen rfl rfl fun b hb => ?_
  cases b
  ·have h4 := iteBF h3 hb
   refine rl.done (RW.cond_f rfl (RW.skip (RW.sreg (rl.run 2 rfl (rl.done (RW.ret ?_))))))
   cases h4
   exact RRet.mk rfl .int (by first | decide | simp)
  ·have h5 := iteBT h3 hb
   refine rl.done (RW.cond_t rfl (RW.sreg (rl.run 1 rfl (rl.done (RW.ret ?_)))))
   cases h5
   exact RRet.mk rfl .int (by first | decide | simp)
 ·have h6 := iteBT h1 hb
  refine rl.done (RW.cond_t rfl (RW.sreg (rl.run 1 rfl (rl.done (RW.ret ?_)))))
  cases h6
  exact RRet.mk rfl .int (by first | decide | simp)
theorem law_laws_szIntS {x0 : List Int} {x1 : Int} {r : Int} (hF : F_laws_szIntS x0 x1 = some r) : PCalls Tryz.prog 16 [.lst false 1 (fl (encI false) x0) x0.length, .int .i64 x1] (.int .i64 r) := by
 refine PCalls.of_r k_laws_szIntS rfl ?_
 unfold F_laws_szIntS at hF
 refine RW.sreg (rl.run 1 rfl (rl.done (RW.sreg (rl.run 5 rfl (rl.done (RW.seq (RW.sreg (rl.run 1 rfl ?_))))))))
 refine rl.gen rfl rfl fun b hb => ?_
 cases b
 ·have h1 := iteBF hF hb
  refine rl.done (RW.cond_f rfl (RW.skip (RW.sreg (rl.run 2 rfl (rl.done (RW.ret ?_))))))
  cases h1
  exact RRet.mk rfl .int (by first | decide | simp)
 ·have h2 := iteBT hF hb
  refine rl.done (RW.cond_t rfl (RW.sreg (rl.run 1 rfl (rl.done (RW.ret ?_)))))
  cases h2
  exact RRet.mk rfl .int (by first | decide | simp)
theorem law_laws_szStore {x0 : TStore} {x1 : Int} {r : Int} (hF : F_laws_szStore x0 x1 = some r) : PCalls Tryz.prog 6 [.agg (enc_TStore false x0), .int .i64 x1] (.int .i64 r) := by
 refine PCalls.of_r k_laws_szStore rfl ?_
 unfold F_laws_szStore at hF
 refine RW.sreg (rl.run 2 rfl (rl.done (RW.sreg (rl.run 3 rfl ?_))))
 obtain ⟨v1, e1, h1⟩ := bindS hF
 refine rl.call rfl rfl rfl (CallW.val (r' := .int .i64 v1) ok_laws_szLog (law_laws_szLog e1) (.cons (DFL.agg (.cons (.lst ekS) (.cons (.lst ek_TWrite) (.cons .int (.cons (.lst ek_TSeg) (.cons .int (.cons .int (.cons .int (.cons .int .nil))))))))) (.cons .int .nil)) .refl ?_)
 refine rl.run 1 rfl (rl.done (RW.seq (RW.sreg (rl.run 1 rfl ?_))))
 refine rl.gen rfl rfl fun b hb => ?_
 cases b
 ·have h2 := iteBF h1 hb
  refine rl.done (RW.cond_f rfl (RW.skip (RW.sreg (rl.run 3 rfl ?_))))
  obtain ⟨v2, e2, h3⟩ := bindS h2
  refine rl.call rfl rfl rfl (CallW.val (r' := .int .i64 v2) ok_laws_szIntS (law_laws_szIntS e2) (.cons (.lst ekI) (.cons .int .nil)) .refl ?_)
  refine rl.run 1 rfl (rl.done ?_)
  refine RW.keep [1] (a' := [(1, .int .i64 v2)]) (H' := [some ⟨[.lst false 1 (fl (encS false) x0.Log.Disk.Sectors) x0.Log.Disk.Sectors.length, .lst false 2 (fl (enc_TWrite false) x0.Log.Disk.Cache) x0.Log.Disk.Cache.length, .int .i64 x0.Log.Segs, .lst false 4 (fl (enc_TSeg false) x0.Log.Used) x0.Log.Used.length, .int .i64 x0.Log.NextGen, .int .i64 x0.Log.NextSeq, .int .i64 x0.Log.Stamp, .int .i64 x0.Log.NextValid, .lst false 1 (fl (encI false) x0.Freed) x0.Freed.length], 0⟩]) rfl rfl ?_
  refine RW.seq (RW.sreg (rl.run 1 rfl ?_))
  refine rl.gen rfl rfl fun b hb => ?_
  cases b
  ·have h4 := iteBF h3 hb
   refine rl.done (RW.cond_f rfl (RW.skip (RW.sreg (rl.run 2 rfl (rl.done (RW.ret ?_))))))
   cases h4
   exact RRet.mk rfl .int (by first | decide | simp)
  ·have h5 := iteBT h3 hb
   refine rl.done (RW.cond_t rfl (RW.sreg (rl.run 1 rfl (rl.done (RW.ret ?_)))))
   cases h5
   exact RRet.mk rfl .int (by first | decide | simp)
 ·have h6 := iteBT h1 hb
  refine rl.done (RW.cond_t rfl (RW.sreg (rl.run 1 rfl (rl.done (RW.ret ?_)))))
  cases h6
  exact RRet.mk rfl .int (by first | decide | simp)
theorem law_spec_l01In {x0 : Int} {x1 : Int} {x2 : Int} {r : Bool} (hF : F_spec_l01In x0 x1 x2 = some r) : PCalls Tryz.prog 40 [.int .i64 x0, .int .i64 x1, .int .i64 x2] (.bool r) := by
 refine PCalls.of_r k_spec_l01In rfl ?_
 unfold F_spec_l01In at hF
 refine RW.sreg (rl.run 1 rfl (rl.done (RW.sreg (rl.run 2 rfl ?_))))
 refine rl.gen rfl rfl fun b hb => ?_
 cases b
 ·have h1 := iteBF hF hb
  refine rl.run 6 rfl (rl.done ?_)
  refine RW.keep [6] (a' := [(6, .bool false)]) (H' := []) rfl rfl ?_
  refine RW.ret ?_
  cases h1
  exact RRet.mk rfl .bool (by first | decide | simp)
 ·have h2 := iteBT hF hb
  refine rl.run 6 rfl (rl.done ?_)
  refine RW.keep [6] (a' := [(6, .bool (decide (x0 ≤ x2)))]) (H' := []) rfl rfl ?_
  refine RW.ret ?_
  cases h2
  exact RRet.mk rfl .bool (by first | decide | simp)
theorem law_spec_WordOk {x0 : List UInt8} {r : Bool} (hF : F_spec_WordOk x0 = some r) : PCalls Tryz.prog 84 [.str x0] (.bool r) := by
 refine PCalls.of_r k_spec_WordOk rfl ?_
 unfold F_spec_WordOk at hF
 refine RW.sreg (rl.run 1 rfl (rl.done (RW.seq (RW.sreg (rl.run 1 rfl (rl.done ?_))))))
 obtain ⟨y6, ey6, h2⟩ := bindS hF
 refine RW.cutq (σ := Unit) (fun y2 => [(0, .str x0)]) (fun y2 => []) (fun y => y6 = .inr y) (fun _ _ _ _ g h => RW.gh g h) ?_ ?_
 ·refine RW.blk ?_
  refine RW.iter (σ := Int) ey6 (fun s1 => [(0, .str x0), (3, .int .i64 s1)]) (fun s1 => []) (Gh.ren0 [] .nil rfl (.cons rfl (.dat .str) (.cons rfl (.dat .int) .nil))) (fun s1 B o hS1 hB1 hE1 => ?_)
  unfold S_spec_WordOk_1 at hS1
  refine RW.seq (RW.sreg (rl.run 3 rfl ?_))
  refine rl.gen rfl rfl fun b hb => ?_
  cases b
  ·have h3 := iteBF hS1 hb
   refine rl.done (RW.cond_f rfl (RW.exit (blkA_eq ?_)))
   cases h3
   exact ⟨_, (hE1 _ rfl).symm, (Gh.ren0 [] .nil rfl (.cons rfl (.dat .str) .nil))⟩
  ·have h4 := iteBT hS1 hb
   refine rl.done (RW.cond_t rfl (RW.skip (RW.seq (RW.blk (RW.seq ?_)))))
   obtain ⟨y3, ey3, h5⟩ := bindS h4
   refine RW.cutq (σ := Bool) (fun y3 => [(0, .str x0), (3, .int .i64 s1), (19, .bool y3)]) (fun y3 => []) (fun y => y3 = y) (fun _ _ _ _ g h => RW.gh g h) ?_ ?_
   ·refine RW.reg ?_
    refine rl.run 2 rfl ?_
    obtain ⟨v4, e4, h6⟩ := bindS ey3
    refine rl.op (x_idx rfl rfl e4) ?_
    refine rl.gen rfl rfl fun b hb => ?_
    cases b
    ·have h7 := iteBF h6 hb
     refine rl.run 3 rfl ?_
     obtain ⟨v5, e5, h8⟩ := bindS h7
     refine rl.gop rfl (x_idx rfl rfl e5) ?_
     refine rl.gen rfl rfl fun b hb => ?_
     cases b
     ·have h9 := iteBF h8 hb
      refine rl.run 1 rfl (rl.done ?_)
      cases h9
      exact ⟨_, rfl, (Gh.ren0 [] .nil rfl (.cons rfl (.dat .str) (.cons rfl (.dat .int) (.cons rfl (.dat .bool) .nil))))⟩
     ·have h10 := iteBT h8 hb
      refine rl.run 1 rfl (rl.done ?_)
      cases h10
      exact ⟨_, rfl, (Gh.ren0 [] .nil rfl (.cons rfl (.dat .str) (.cons rfl (.dat .int) (.cons rfl (.dat .bool) .nil))))⟩
    ·have h11 := iteBT h6 hb
     refine rl.run 6 rfl (rl.done ?_)
     cases h11
     exact ⟨_, rfl, (Gh.ren0 [] .nil rfl (.cons rfl (.dat .str) (.cons rfl (.dat .int) (.cons rfl (.dat .bool) .nil))))⟩
   ·intro y hC
    subst hC
    cases hb : y3
    ·have h12 := iteBF h5 hb
     refine RW.cond_f rfl (RW.skip (RW.reg (rl.run 3 rfl (rl.done ?_))))
     cases h12
     exact hB1 _ rfl _ _ (Gh.ren0 [] .nil rfl (.cons rfl (.dat .str) (.cons rfl (.dat .int) .nil)))
    ·have h13 := iteBT h5 hb
     refine RW.cond_t rfl (RW.sreg (rl.run 1 rfl (rl.done (RW.ret ?_))))
     cases h13
     have h14 := elimL h2 (hE1 _ rfl)
     cases h14
     exact RRet.mk rfl .bool (by first | decide | simp)
 ·intro y2 hC
  have h2 := elimR h2 hC
  refine RW.sreg (rl.run 2 rfl ?_)
  obtain ⟨v7, e7, h15⟩ := bindS h2
  refine rl.call rfl rfl rfl (CallW.val (r' := .bool v7) ok_spec_l01In (law_spec_l01In e7) (.cons .int (.cons .int (.cons .int .nil))) .refl ?_)
  refine rl.run 1 rfl (rl.done (RW.ret ?_))
  cases h15
  exact RRet.mk rfl .bool (by first | decide | simp)
theorem law_spec_RecOk {x0 : TRec} {r : Bool} (hF : F_spec_RecOk x0 = some r) : PCalls Tryz.prog 65 [.agg (enc_TRec false x0)] (.bool r) := by
 refine PCalls.of_r k_spec_RecOk rfl ?_
 unfold F_spec_RecOk at hF
 refine RW.sreg (rl.run 2 rfl (rl.done (RW.seq (RW.seq ?_))))
 obtain ⟨y1, ey1, h1⟩ := bindS hF
 refine RW.cutq (σ := Bool) (fun y1 => [(1, .ptr 0 0), (15, .bool y1)]) (fun y1 => [some ⟨[.int .i64 x0.Kind, .int .i64 x0.Valid, .int .i64 x0.Uid, .int .i64 x0.Next, .int .i64 x0.Flags, .str x0.User, .str x0.Name, .str x0.Text], 0⟩]) (fun y => y1 = y) (fun _ _ _ _ g h => RW.gh g h) ?_ ?_
 ·refine RW.reg ?_
  refine rl.run 2 rfl ?_
  obtain ⟨v2, e2, h2⟩ := bindS ey1
  refine rl.call rfl rfl rfl (CallW.val (r' := .bool v2) ok_spec_l01In (law_spec_l01In e2) (.cons .int (.cons .int (.cons .int .nil))) .refl ?_)
  cases hb : v2
  ·have h3 := iteBF h2 hb
   refine rl.run 7 rfl (rl.done ?_)
   cases h3
   exact ⟨_, rfl, (Gh.ren0 [0] (.cells rfl rfl (.keep .int (.keep .int (.keep .int (.keep .int (.keep .int (.keep .str (.keep .str (.keep .str .nil)))))))) .nil) rfl (.cons rfl (.ptr rfl) (.cons rfl (.dat .bool) .nil)))⟩
  ·have h4 := iteBT h2 hb
   refine rl.run 4 rfl ?_
   obtain ⟨v3, e3, h5⟩ := bindS h4
   refine rl.call rfl rfl rfl (CallW.val (r' := .bool v3) ok_spec_l01In (law_spec_l01In e3) (.cons .int (.cons .int (.cons .int .nil))) .refl ?_)
   cases hb : v3
   ·have h6 := iteBF h5 hb
    refine rl.run 2 rfl (rl.done ?_)
    cases h6
    exact ⟨_, rfl, (Gh.ren0 [0] (.cells rfl rfl (.keep .int (.keep .int (.keep .int (.keep .int (.keep .int (.keep .str (.keep .str (.keep .str .nil)))))))) .nil) rfl (.cons rfl (.ptr rfl) (.cons rfl (.dat .bool) .nil)))⟩
   ·have h7 := iteBT h5 hb
    refine rl.run 2 rfl (rl.done ?_)
    cases h7
    exact ⟨_, rfl, (Gh.ren0 [0] (.cells rfl rfl (.keep .int (.keep .int (.keep .int (.keep .int (.keep .int (.keep .str (.keep .str (.keep .str .nil)))))))) .nil) rfl (.cons rfl (.ptr rfl) (.cons rfl (.dat .bool) .nil)))⟩
 ·intro y hC
  subst hC
  cases hb : y1
  ·have h8 := iteBF h1 hb
   refine RW.cond_f rfl (RW.skip (RW.sreg (rl.run 2 rfl ?_)))
   refine rl.gen rfl rfl fun b hb => ?_
   cases b
   ·have h9 := iteBF h8 hb
    refine rl.run 1 rfl (rl.done (RW.seq ?_))
    obtain ⟨y4, ey4, h10⟩ := bindS h9
    refine RW.cutq (σ := Bool) (fun y4 => [(1, .ptr 0 0), (3, .bool false), (4, .bool y4)]) (fun y4 => [some ⟨[.int .i64 x0.Kind, .int .i64 x0.Valid, .int .i64 x0.Uid, .int .i64 x0.Next, .int .i64 x0.Flags, .str x0.User, .str x0.Name, .str x0.Text], 0⟩]) (fun y => y4 = y) (fun _ _ _ _ g h => RW.gh g h) ?_ ?_
    ·refine RW.reg ?_
     refine rl.run 2 rfl ?_
     refine rl.gen rfl rfl fun b hb => ?_
     cases b
     ·have h11 := iteBF ey4 hb
      refine rl.run 3 rfl ?_
      refine rl.gen rfl rfl fun b hb => ?_
      cases b
      ·have h12 := iteBF h11 hb
       refine rl.run 4 rfl ?_
       refine rl.gen rfl rfl fun b hb => ?_
       cases b
       ·have h13 := iteBF h12 hb
        refine rl.run 2 rfl (rl.done ?_)
        cases h13
        exact ⟨_, rfl, (Gh.ren0 [0] (.cells rfl rfl (.keep .int (.keep .int (.keep .int (.keep .int (.keep .int (.keep .str (.keep .str (.keep .str .nil)))))))) .nil) rfl (.cons rfl (.ptr rfl) (.cons rfl (.dat .bool) (.cons rfl (.dat .bool) .nil))))⟩
       ·have h14 := iteBT h12 hb
        refine rl.run 2 rfl (rl.done ?_)
        cases h14
        exact ⟨_, rfl, (Gh.ren0 [0] (.cells rfl rfl (.keep .int (.keep .int (.keep .int (.keep .int (.keep .int (.keep .str (.keep .str (.keep .str .nil)))))))) .nil) rfl (.cons rfl (.ptr rfl) (.cons rfl (.dat .bool) (.cons rfl (.dat .bool) .nil))))⟩
      ·have h15 := iteBT h11 hb
       refine rl.run 7 rfl (rl.done ?_)
       cases h15
       exact ⟨_, rfl, (Gh.ren0 [0] (.cells rfl rfl (.keep .int (.keep .int (.keep .int (.keep .int (.keep .int (.keep .str (.keep .str (.keep .str .nil)))))))) .nil) rfl (.cons rfl (.ptr rfl) (.cons rfl (.dat .bool) (.cons rfl (.dat .bool) .nil))))⟩
     ·have h16 := iteBT ey4 hb
      refine rl.run 11 rfl (rl.done ?_)
      cases h16
      exact ⟨_, rfl, (Gh.ren0 [0] (.cells rfl rfl (.keep .int (.keep .int (.keep .int (.keep .int (.keep .int (.keep .str (.keep .str (.keep .str .nil)))))))) .nil) rfl (.cons rfl (.ptr rfl) (.cons rfl (.dat .bool) (.cons rfl (.dat .bool) .nil))))⟩
    ·intro y hC
     subst hC
     refine RW.seq ?_
     obtain ⟨y5, ey5, h17⟩ := bindS h10
     refine RW.cutq (σ := Bool) (fun y5 => [(1, .ptr 0 0), (3, .bool false), (4, .bool y4), (5, .bool y5)]) (fun y5 => [some ⟨[.int .i64 x0.Kind, .int .i64 x0.Valid, .int .i64 x0.Uid, .int .i64 x0.Next, .int .i64 x0.Flags, .str x0.User, .str x0.Name, .str x0.Text], 0⟩]) (fun y => y5 = y) (fun _ _ _ _ g h => RW.gh g h) ?_ ?_
     ·refine RW.reg ?_
      refine rl.run 2 rfl ?_
      refine rl.gen rfl rfl fun b hb => ?_
      cases b
      ·have h18 := iteBF ey5 hb
       refine rl.run 3 rfl ?_
       refine rl.gen rfl rfl fun b hb => ?_
       cases b
       ·have h19 := iteBF h18 hb
        refine rl.run 2 rfl (rl.done ?_)
        cases h19
        exact ⟨_, rfl, (Gh.ren0 [0] (.cells rfl rfl (.keep .int (.keep .int (.keep .int (.keep .int (.keep .int (.keep .str (.keep .str (.keep .str .nil)))))))) .nil) rfl (.cons rfl (.ptr rfl) (.cons rfl (.dat .bool) (.cons rfl (.dat .bool) (.cons rfl (.dat .bool) .nil)))))⟩
       ·have h20 := iteBT h18 hb
        refine rl.run 2 rfl (rl.done ?_)
        cases h20
        exact ⟨_, rfl, (Gh.ren0 [0] (.cells rfl rfl (.keep .int (.keep .int (.keep .int (.keep .int (.keep .int (.keep .str (.keep .str (.keep .str .nil)))))))) .nil) rfl (.cons rfl (.ptr rfl) (.cons rfl (.dat .bool) (.cons rfl (.dat .bool) (.cons rfl (.dat .bool) .nil)))))⟩
      ·have h21 := iteBT ey5 hb
       refine rl.run 6 rfl (rl.done ?_)
       cases h21
       exact ⟨_, rfl, (Gh.ren0 [0] (.cells rfl rfl (.keep .int (.keep .int (.keep .int (.keep .int (.keep .int (.keep .str (.keep .str (.keep .str .nil)))))))) .nil) rfl (.cons rfl (.ptr rfl) (.cons rfl (.dat .bool) (.cons rfl (.dat .bool) (.cons rfl (.dat .bool) .nil)))))⟩
     ·intro y hC
      subst hC
      refine RW.seq (RW.seq ?_)
      obtain ⟨y6, ey6, h22⟩ := bindS h17
      refine RW.cutq (σ := Bool) (fun y6 => [(1, .ptr 0 0), (4, .bool y4), (5, .bool y5), (77, .bool y6)]) (fun y6 => [some ⟨[.int .i64 x0.Kind, .int .i64 x0.Valid, .int .i64 x0.Uid, .int .i64 x0.Next, .int .i64 x0.Flags, .str x0.User, .str x0.Name, .str x0.Text], 0⟩]) (fun y => y6 = y) (fun _ _ _ _ g h => RW.gh g h) ?_ ?_
      ·refine RW.reg ?_
       refine rl.run 25 rfl ?_
       refine rl.gen rfl rfl fun b hb => ?_
       cases b
       ·have h23 := iteBF ey6 hb
        refine rl.run 3 rfl ?_
        refine rl.gen rfl rfl fun b hb => ?_
        cases b
        ·have h24 := iteBF h23 hb
         refine rl.run 4 rfl ?_
         refine rl.gen rfl rfl fun b hb => ?_
         cases b
         ·have h25 := iteBF h24 hb
          refine rl.run 3 rfl (rl.done ?_)
          cases h25
          exact ⟨_, rfl, (Gh.ren0 [0] (.cells rfl rfl (.keep .int (.keep .int (.keep .int (.keep .int (.keep .int (.keep .str (.keep .str (.keep .str .nil)))))))) .nil) rfl (.cons rfl (.ptr rfl) (.cons rfl (.dat .bool) (.cons rfl (.dat .bool) (.cons rfl (.dat .bool) .nil)))))⟩
         ·have h26 := iteBT h24 hb
          refine rl.run 3 rfl (rl.done ?_)
          cases h26
          exact ⟨_, rfl, (Gh.ren0 [0] (.cells rfl rfl (.keep .int (.keep .int (.keep .int (.keep .int (.keep .int (.keep .str (.keep .str (.keep .str .nil)))))))) .nil) rfl (.cons rfl (.ptr rfl) (.cons rfl (.dat .bool) (.cons rfl (.dat .bool) (.cons rfl (.dat .bool) .nil)))))⟩
        ·have h27 := iteBT h23 hb
         refine rl.run 8 rfl (rl.done ?_)
         cases h27
         exact ⟨_, rfl, (Gh.ren0 [0] (.cells rfl rfl (.keep .int (.keep .int (.keep .int (.keep .int (.keep .int (.keep .str (.keep .str (.keep .str .nil)))))))) .nil) rfl (.cons rfl (.ptr rfl) (.cons rfl (.dat .bool) (.cons rfl (.dat .bool) (.cons rfl (.dat .bool) .nil)))))⟩
       ·have h28 := iteBT ey6 hb
        refine rl.run 12 rfl (rl.done ?_)
        cases h28
        exact ⟨_, rfl, (Gh.ren0 [0] (.cells rfl rfl (.keep .int (.keep .int (.keep .int (.keep .int (.keep .int (.keep .str (.keep .str (.keep .str .nil)))))))) .nil) rfl (.cons rfl (.ptr rfl) (.cons rfl (.dat .bool) (.cons rfl (.dat .bool) (.cons rfl (.dat .bool) .nil)))))⟩
      ·intro y hC
       subst hC
       cases hb : y6
       ·have h29 := iteBF h22 hb
        refine RW.cond_f rfl (RW.skip (RW.seq (RW.seq ?_)))
        obtain ⟨y7, ey7, h30⟩ := bindS h29
        refine RW.cutq (σ := Bool) (fun y7 => [(1, .ptr 0 0), (5, .bool y5), (93, .bool y7)]) (fun y7 => [some ⟨[.int .i64 x0.Kind, .int .i64 x0.Valid, .int .i64 x0.Uid, .int .i64 x0.Next, .int .i64 x0.Flags, .str x0.User, .str x0.Name, .str x0.Text], 0⟩]) (fun y => y7 = y) (fun _ _ _ _ g h => RW.gh g h) ?_ ?_
        ·refine RW.reg ?_
         refine rl.run 2 rfl ?_
         cases hb : y4
         ·have h31 := iteBF ey7 hb
          refine rl.run 11 rfl ?_
          refine rl.gen rfl rfl fun b hb => ?_
          cases b
          ·have h32 := iteBF h31 hb
           refine rl.run 2 rfl (rl.done ?_)
           cases h32
           exact ⟨_, rfl, (Gh.ren0 [0] (.cells rfl rfl (.keep .int (.keep .int (.keep .int (.keep .int (.keep .int (.keep .str (.keep .str (.keep .str .nil)))))))) .nil) rfl (.cons rfl (.ptr rfl) (.cons rfl (.dat .bool) (.cons rfl (.dat .bool) .nil))))⟩
          ·have h33 := iteBT h31 hb
           refine rl.run 2 rfl (rl.done ?_)
           cases h33
           exact ⟨_, rfl, (Gh.ren0 [0] (.cells rfl rfl (.keep .int (.keep .int (.keep .int (.keep .int (.keep .int (.keep .str (.keep .str (.keep .str .nil)))))))) .nil) rfl (.cons rfl (.ptr rfl) (.cons rfl (.dat .bool) (.cons rfl (.dat .bool) .nil))))⟩
         ·have h34 := iteBT ey7 hb
          refine rl.run 2 rfl ?_
          obtain ⟨v8, e8, h35⟩ := bindS h34
          refine rl.call rfl rfl rfl (CallW.val (r' := .bool v8) ok_spec_l01In (law_spec_l01In e8) (.cons .int (.cons .int (.cons .int .nil))) .refl ?_)
          cases hb : v8
          ·have h36 := iteBF h35 hb
           refine rl.run 11 rfl (rl.done ?_)
           cases h36
           exact ⟨_, rfl, (Gh.ren0 [0] (.cells rfl rfl (.keep .int (.keep .int (.keep .int (.keep .int (.keep .int (.keep .str (.keep .str (.keep .str .nil)))))))) .nil) rfl (.cons rfl (.ptr rfl) (.cons rfl (.dat .bool) (.cons rfl (.dat .bool) .nil))))⟩
          ·have h37 := iteBT h35 hb
           refine rl.run 11 rfl (rl.done ?_)
           cases h37
           exact ⟨_, rfl, (Gh.ren0 [0] (.cells rfl rfl (.keep .int (.keep .int (.keep .int (.keep .int (.keep .int (.keep .str (.keep .str (.keep .str .nil)))))))) .nil) rfl (.cons rfl (.ptr rfl) (.cons rfl (.dat .bool) (.cons rfl (.dat .bool) .nil))))⟩
        ·intro y hC
         subst hC
         cases hb : y7
         ·have h38 := iteBF h30 hb
          refine RW.cond_f rfl (RW.skip (RW.seq (RW.seq ?_)))
          obtain ⟨y9, ey9, h39⟩ := bindS h38
          refine RW.cutq (σ := Bool) (fun y9 => [(1, .ptr 0 0), (109, .bool y9)]) (fun y9 => [some ⟨[.int .i64 x0.Kind, .int .i64 x0.Valid, .int .i64 x0.Uid, .int .i64 x0.Next, .int .i64 x0.Flags, .str x0.User, .str x0.Name, .str x0.Text], 0⟩]) (fun y => y9 = y) (fun _ _ _ _ g h => RW.gh g h) ?_ ?_
          ·refine RW.reg ?_
           refine rl.run 2 rfl ?_
           cases hb : y5
           ·have h40 := iteBF ey9 hb
            refine rl.run 11 rfl ?_
            refine rl.gen rfl rfl fun b hb => ?_
            cases b
            ·have h41 := iteBF h40 hb
             refine rl.run 2 rfl (rl.done ?_)
             cases h41
             exact ⟨_, rfl, (Gh.ren0 [0] (.cells rfl rfl (.keep .int (.keep .int (.keep .int (.keep .int (.keep .int (.keep .str (.keep .str (.keep .str .nil)))))))) .nil) rfl (.cons rfl (.ptr rfl) (.cons rfl (.dat .bool) .nil)))⟩
            ·have h42 := iteBT h40 hb
             refine rl.run 2 rfl (rl.done ?_)
             cases h42
             exact ⟨_, rfl, (Gh.ren0 [0] (.cells rfl rfl (.keep .int (.keep .int (.keep .int (.keep .int (.keep .int (.keep .str (.keep .str (.keep .str .nil)))))))) .nil) rfl (.cons rfl (.ptr rfl) (.cons rfl (.dat .bool) .nil)))⟩
           ·have h43 := iteBT ey9 hb
            refine rl.run 2 rfl ?_
            obtain ⟨v10, e10, h44⟩ := bindS h43
            refine rl.call rfl rfl rfl (CallW.val (r' := .bool v10) ok_spec_l01In (law_spec_l01In e10) (.cons .int (.cons .int (.cons .int .nil))) .refl ?_)
            cases hb : v10
            ·have h45 := iteBF h44 hb
             refine rl.run 11 rfl (rl.done ?_)
             cases h45
             exact ⟨_, rfl, (Gh.ren0 [0] (.cells rfl rfl (.keep .int (.keep .int (.keep .int (.keep .int (.keep .int (.keep .str (.keep .str (.keep .str .nil)))))))) .nil) rfl (.cons rfl (.ptr rfl) (.cons rfl (.dat .bool) .nil)))⟩
            ·have h46 := iteBT h44 hb
             refine rl.run 11 rfl (rl.done ?_)
             cases h46
             exact ⟨_, rfl, (Gh.ren0 [0] (.cells rfl rfl (.keep .int (.keep .int (.keep .int (.keep .int (.keep .int (.keep .str (.keep .str (.keep .str .nil)))))))) .nil) rfl (.cons rfl (.ptr rfl) (.cons rfl (.dat .bool) .nil)))⟩
          ·intro y hC
           subst hC
           cases hb : y9
           ·have h47 := iteBF h39 hb
            refine RW.cond_f rfl (RW.skip (RW.seq (RW.sreg (rl.run 2 rfl ?_))))
            refine rl.gen rfl rfl fun b hb => ?_
            cases b
            ·have h48 := iteBF h47 hb
             refine rl.done (RW.cond_f rfl (RW.skip (RW.sreg (rl.run 4 rfl (rl.done (RW.ret ?_))))))
             cases h48
             exact RRet.mk rfl .bool (by first | decide | simp)
            ·have h49 := iteBT h47 hb
             refine rl.done (RW.cond_t rfl (RW.sreg (rl.run 5 rfl (rl.done (RW.ret ?_)))))
             cases h49
             exact RRet.mk rfl .bool (by first | decide | simp)
           ·have h50 := iteBT h39 hb
            refine RW.cond_t rfl (RW.sreg (rl.run 1 rfl (rl.done (RW.ret ?_))))
            cases h50
            exact RRet.mk rfl .bool (by first | decide | simp)
         ·have h51 := iteBT h30 hb
          refine RW.cond_t rfl (RW.sreg (rl.run 1 rfl (rl.done (RW.ret ?_))))
          cases h51
          exact RRet.mk rfl .bool (by first | decide | simp)
       ·have h52 := iteBT h22 hb
        refine RW.cond_t rfl (RW.sreg (rl.run 1 rfl (rl.done (RW.ret ?_))))
        cases h52
        exact RRet.mk rfl .bool (by first | decide | simp)
   ·have h53 := iteBT h8 hb
    refine rl.run 1 rfl (rl.done (RW.seq ?_))
    obtain ⟨y11, ey11, h54⟩ := bindS h53
    refine RW.cutq (σ := Bool) (fun y11 => [(1, .ptr 0 0), (3, .bool true), (4, .bool y11)]) (fun y11 => [some ⟨[.int .i64 x0.Kind, .int .i64 x0.Valid, .int .i64 x0.Uid, .int .i64 x0.Next, .int .i64 x0.Flags, .str x0.User, .str x0.Name, .str x0.Text], 0⟩]) (fun y => y11 = y) (fun _ _ _ _ g h => RW.gh g h) ?_ ?_
    ·refine RW.reg ?_
     refine rl.run 2 rfl ?_
     refine rl.gen rfl rfl fun b hb => ?_
     cases b
     ·have h55 := iteBF ey11 hb
      refine rl.run 3 rfl ?_
      refine rl.gen rfl rfl fun b hb => ?_
      cases b
      ·have h56 := iteBF h55 hb
       refine rl.run 4 rfl ?_
       refine rl.gen rfl rfl fun b hb => ?_
       cases b
       ·have h57 := iteBF h56 hb
        refine rl.run 2 rfl (rl.done ?_)
        cases h57
        exact ⟨_, rfl, (Gh.ren0 [0] (.cells rfl rfl (.keep .int (.keep .int (.keep .int (.keep .int (.keep .int (.keep .str (.keep .str (.keep .str .nil)))))))) .nil) rfl (.cons rfl (.ptr rfl) (.cons rfl (.dat .bool) (.cons rfl (.dat .bool) .nil))))⟩
       ·have h58 := iteBT h56 hb
        refine rl.run 2 rfl (rl.done ?_)
        cases h58
        exact ⟨_, rfl, (Gh.ren0 [0] (.cells rfl rfl (.keep .int (.keep .int (.keep .int (.keep .int (.keep .int (.keep .str (.keep .str (.keep .str .nil)))))))) .nil) rfl (.cons rfl (.ptr rfl) (.cons rfl (.dat .bool) (.cons rfl (.dat .bool) .nil))))⟩
      ·have h59 := iteBT h55 hb
       refine rl.run 7 rfl (rl.done ?_)
       cases h59
       exact ⟨_, rfl, (Gh.ren0 [0] (.cells rfl rfl (.keep .int (.keep .int (.keep .int (.keep .int (.keep .int (.keep .str (.keep .str (.keep .str .nil)))))))) .nil) rfl (.cons rfl (.ptr rfl) (.cons rfl (.dat .bool) (.cons rfl (.dat .bool) .nil))))⟩
     ·have h60 := iteBT ey11 hb
      refine rl.run 11 rfl (rl.done ?_)
      cases h60
      exact ⟨_, rfl, (Gh.ren0 [0] (.cells rfl rfl (.keep .int (.keep .int (.keep .int (.keep .int (.keep .int (.keep .str (.keep .str (.keep .str .nil)))))))) .nil) rfl (.cons rfl (.ptr rfl) (.cons rfl (.dat .bool) (.cons rfl (.dat .bool) .nil))))⟩
    ·intro y hC
     subst hC
     refine RW.seq ?_
     obtain ⟨y12, ey12, h61⟩ := bindS h54
     refine RW.cutq (σ := Bool) (fun y12 => [(1, .ptr 0 0), (3, .bool true), (4, .bool y11), (5, .bool y12)]) (fun y12 => [some ⟨[.int .i64 x0.Kind, .int .i64 x0.Valid, .int .i64 x0.Uid, .int .i64 x0.Next, .int .i64 x0.Flags, .str x0.User, .str x0.Name, .str x0.Text], 0⟩]) (fun y => y12 = y) (fun _ _ _ _ g h => RW.gh g h) ?_ ?_
     ·refine RW.reg ?_
      refine rl.run 2 rfl ?_
      refine rl.gen rfl rfl fun b hb => ?_
      cases b
      ·have h62 := iteBF ey12 hb
       refine rl.run 3 rfl ?_
       refine rl.gen rfl rfl fun b hb => ?_
       cases b
       ·have h63 := iteBF h62 hb
        refine rl.run 2 rfl (rl.done ?_)
        cases h63
        exact ⟨_, rfl, (Gh.ren0 [0] (.cells rfl rfl (.keep .int (.keep .int (.keep .int (.keep .int (.keep .int (.keep .str (.keep .str (.keep .str .nil)))))))) .nil) rfl (.cons rfl (.ptr rfl) (.cons rfl (.dat .bool) (.cons rfl (.dat .bool) (.cons rfl (.dat .bool) .nil)))))⟩
       ·have h64 := iteBT h62 hb
        refine rl.run 2 rfl (rl.done ?_)
        cases h64
        exact ⟨_, rfl, (Gh.ren0 [0] (.cells rfl rfl (.keep .int (.keep .int (.keep .int (.keep .int (.keep .int (.keep .str (.keep .str (.keep .str .nil)))))))) .nil) rfl (.cons rfl (.ptr rfl) (.cons rfl (.dat .bool) (.cons rfl (.dat .bool) (.cons rfl (.dat .bool) .nil)))))⟩
      ·have h65 := iteBT ey12 hb
       refine rl.run 6 rfl (rl.done ?_)
       cases h65
       exact ⟨_, rfl, (Gh.ren0 [0] (.cells rfl rfl (.keep .int (.keep .int (.keep .int (.keep .int (.keep .int (.keep .str (.keep .str (.keep .str .nil)))))))) .nil) rfl (.cons rfl (.ptr rfl) (.cons rfl (.dat .bool) (.cons rfl (.dat .bool) (.cons rfl (.dat .bool) .nil)))))⟩
     ·intro y hC
      subst hC
      refine RW.seq (RW.seq ?_)
      obtain ⟨y13, ey13, h66⟩ := bindS h61
      refine RW.cutq (σ := Bool) (fun y13 => [(1, .ptr 0 0), (4, .bool y11), (5, .bool y12), (77, .bool y13)]) (fun y13 => [some ⟨[.int .i64 x0.Kind, .int .i64 x0.Valid, .int .i64 x0.Uid, .int .i64 x0.Next, .int .i64 x0.Flags, .str x0.User, .str x0.Name, .str x0.Text], 0⟩]) (fun y => y13 = y) (fun _ _ _ _ g h => RW.gh g h) ?_ ?_
      ·refine RW.reg ?_
       refine rl.run 4 rfl ?_
       obtain ⟨v14, e14, h67⟩ := bindS ey13
       refine rl.call rfl rfl rfl (CallW.val (r' := .bool v14) ok_spec_WordOk (law_spec_WordOk e14) (.cons .str .nil) .refl ?_)
       cases hb : v14
       ·have h68 := iteBF h67 hb
        refine rl.run 33 rfl (rl.done ?_)
        cases h68
        exact ⟨_, rfl, (Gh.ren0 [0] (.cells rfl rfl (.keep .int (.keep .int (.keep .int (.keep .int (.keep .int (.keep .str (.keep .str (.keep .str .nil)))))))) .nil) rfl (.cons rfl (.ptr rfl) (.cons rfl (.dat .bool) (.cons rfl (.dat .bool) (.cons rfl (.dat .bool) .nil)))))⟩
       ·have h69 := iteBT h67 hb
        refine rl.run 4 rfl ?_
        obtain ⟨v15, e15, h70⟩ := bindS h69
        refine rl.call rfl rfl rfl (CallW.val (r' := .bool v15) ok_spec_WordOk (law_spec_WordOk e15) (.cons .str .nil) .refl ?_)
        cases hb : v15
        ·have h71 := iteBF h70 hb
         refine rl.run 28 rfl (rl.done ?_)
         cases h71
         exact ⟨_, rfl, (Gh.ren0 [0] (.cells rfl rfl (.keep .int (.keep .int (.keep .int (.keep .int (.keep .int (.keep .str (.keep .str (.keep .str .nil)))))))) .nil) rfl (.cons rfl (.ptr rfl) (.cons rfl (.dat .bool) (.cons rfl (.dat .bool) (.cons rfl (.dat .bool) .nil)))))⟩
        ·have h72 := iteBT h70 hb
         refine rl.run 5 rfl ?_
         obtain ⟨v16, e16, h73⟩ := bindS h72
         refine rl.call rfl rfl rfl (CallW.val (r' := .bool v16) ok_spec_l01In (law_spec_l01In e16) (.cons .int (.cons .int (.cons .int .nil))) .refl ?_)
         cases hb : v16
         ·have h74 := iteBF h73 hb
          refine rl.run 22 rfl (rl.done ?_)
          cases h74
          exact ⟨_, rfl, (Gh.ren0 [0] (.cells rfl rfl (.keep .int (.keep .int (.keep .int (.keep .int (.keep .int (.keep .str (.keep .str (.keep .str .nil)))))))) .nil) rfl (.cons rfl (.ptr rfl) (.cons rfl (.dat .bool) (.cons rfl (.dat .bool) (.cons rfl (.dat .bool) .nil)))))⟩
         ·have h75 := iteBT h73 hb
          refine rl.run 22 rfl (rl.done ?_)
          cases h75
          exact ⟨_, rfl, (Gh.ren0 [0] (.cells rfl rfl (.keep .int (.keep .int (.keep .int (.keep .int (.keep .int (.keep .str (.keep .str (.keep .str .nil)))))))) .nil) rfl (.cons rfl (.ptr rfl) (.cons rfl (.dat .bool) (.cons rfl (.dat .bool) (.cons rfl (.dat .bool) .nil)))))⟩
      ·intro y hC
       subst hC
       cases hb : y13
       ·have h76 := iteBF h66 hb
        refine RW.cond_f rfl (RW.skip (RW.seq (RW.seq ?_)))
        obtain ⟨y17, ey17, h77⟩ := bindS h76
        refine RW.cutq (σ := Bool) (fun y17 => [(1, .ptr 0 0), (5, .bool y12), (93, .bool y17)]) (fun y17 => [some ⟨[.int .i64 x0.Kind, .int .i64 x0.Valid, .int .i64 x0.Uid, .int .i64 x0.Next, .int .i64 x0.Flags, .str x0.User, .str x0.Name, .str x0.Text], 0⟩]) (fun y => y17 = y) (fun _ _ _ _ g h => RW.gh g h) ?_ ?_
        ·refine RW.reg ?_
         refine rl.run 2 rfl ?_
         cases hb : y11
         ·have h78 := iteBF ey17 hb
          refine rl.run 11 rfl ?_
          refine rl.gen rfl rfl fun b hb => ?_
          cases b
          ·have h79 := iteBF h78 hb
           refine rl.run 2 rfl (rl.done ?_)
           cases h79
           exact ⟨_, rfl, (Gh.ren0 [0] (.cells rfl rfl (.keep .int (.keep .int (.keep .int (.keep .int (.keep .int (.keep .str (.keep .str (.keep .str .nil)))))))) .nil) rfl (.cons rfl (.ptr rfl) (.cons rfl (.dat .bool) (.cons rfl (.dat .bool) .nil))))⟩
          ·have h80 := iteBT h78 hb
           refine rl.run 2 rfl (rl.done ?_)
           cases h80
           exact ⟨_, rfl, (Gh.ren0 [0] (.cells rfl rfl (.keep .int (.keep .int (.keep .int (.keep .int (.keep .int (.keep .str (.keep .str (.keep .str .nil)))))))) .nil) rfl (.cons rfl (.ptr rfl) (.cons rfl (.dat .bool) (.cons rfl (.dat .bool) .nil))))⟩
         ·have h81 := iteBT ey17 hb
          refine rl.run 2 rfl ?_
          obtain ⟨v18, e18, h82⟩ := bindS h81
          refine rl.call rfl rfl rfl (CallW.val (r' := .bool v18) ok_spec_l01In (law_spec_l01In e18) (.cons .int (.cons .int (.cons .int .nil))) .refl ?_)
          cases hb : v18
          ·have h83 := iteBF h82 hb
           refine rl.run 11 rfl (rl.done ?_)
           cases h83
           exact ⟨_, rfl, (Gh.ren0 [0] (.cells rfl rfl (.keep .int (.keep .int (.keep .int (.keep .int (.keep .int (.keep .str (.keep .str (.keep .str .nil)))))))) .nil) rfl (.cons rfl (.ptr rfl) (.cons rfl (.dat .bool) (.cons rfl (.dat .bool) .nil))))⟩
          ·have h84 := iteBT h82 hb
           refine rl.run 11 rfl (rl.done ?_)
           cases h84
           exact ⟨_, rfl, (Gh.ren0 [0] (.cells rfl rfl (.keep .int (.keep .int (.keep .int (.keep .int (.keep .int (.keep .str (.keep .str (.keep .str .nil)))))))) .nil) rfl (.cons rfl (.ptr rfl) (.cons rfl (.dat .bool) (.cons rfl (.dat .bool) .nil))))⟩
        ·intro y hC
         subst hC
         cases hb : y17
         ·have h85 := iteBF h77 hb
          refine RW.cond_f rfl (RW.skip (RW.seq (RW.seq ?_)))
          obtain ⟨y19, ey19, h86⟩ := bindS h85
          refine RW.cutq (σ := Bool) (fun y19 => [(1, .ptr 0 0), (109, .bool y19)]) (fun y19 => [some ⟨[.int .i64 x0.Kind, .int .i64 x0.Valid, .int .i64 x0.Uid, .int .i64 x0.Next, .int .i64 x0.Flags, .str x0.User, .str x0.Name, .str x0.Text], 0⟩]) (fun y => y19 = y) (fun _ _ _ _ g h => RW.gh g h) ?_ ?_
          ·refine RW.reg ?_
           refine rl.run 2 rfl ?_
           cases hb : y12
           ·have h87 := iteBF ey19 hb
            refine rl.run 11 rfl ?_
            refine rl.gen rfl rfl fun b hb => ?_
            cases b
            ·have h88 := iteBF h87 hb
             refine rl.run 2 rfl (rl.done ?_)
             cases h88
             exact ⟨_, rfl, (Gh.ren0 [0] (.cells rfl rfl (.keep .int (.keep .int (.keep .int (.keep .int (.keep .int (.keep .str (.keep .str (.keep .str .nil)))))))) .nil) rfl (.cons rfl (.ptr rfl) (.cons rfl (.dat .bool) .nil)))⟩
            ·have h89 := iteBT h87 hb
             refine rl.run 2 rfl (rl.done ?_)
             cases h89
             exact ⟨_, rfl, (Gh.ren0 [0] (.cells rfl rfl (.keep .int (.keep .int (.keep .int (.keep .int (.keep .int (.keep .str (.keep .str (.keep .str .nil)))))))) .nil) rfl (.cons rfl (.ptr rfl) (.cons rfl (.dat .bool) .nil)))⟩
           ·have h90 := iteBT ey19 hb
            refine rl.run 2 rfl ?_
            obtain ⟨v20, e20, h91⟩ := bindS h90
            refine rl.call rfl rfl rfl (CallW.val (r' := .bool v20) ok_spec_l01In (law_spec_l01In e20) (.cons .int (.cons .int (.cons .int .nil))) .refl ?_)
            cases hb : v20
            ·have h92 := iteBF h91 hb
             refine rl.run 11 rfl (rl.done ?_)
             cases h92
             exact ⟨_, rfl, (Gh.ren0 [0] (.cells rfl rfl (.keep .int (.keep .int (.keep .int (.keep .int (.keep .int (.keep .str (.keep .str (.keep .str .nil)))))))) .nil) rfl (.cons rfl (.ptr rfl) (.cons rfl (.dat .bool) .nil)))⟩
            ·have h93 := iteBT h91 hb
             refine rl.run 11 rfl (rl.done ?_)
             cases h93
             exact ⟨_, rfl, (Gh.ren0 [0] (.cells rfl rfl (.keep .int (.keep .int (.keep .int (.keep .int (.keep .int (.keep .str (.keep .str (.keep .str .nil)))))))) .nil) rfl (.cons rfl (.ptr rfl) (.cons rfl (.dat .bool) .nil)))⟩
          ·intro y hC
           subst hC
           cases hb : y19
           ·have h94 := iteBF h86 hb
            refine RW.cond_f rfl (RW.skip (RW.seq (RW.sreg (rl.run 2 rfl ?_))))
            refine rl.gen rfl rfl fun b hb => ?_
            cases b
            ·have h95 := iteBF h94 hb
             refine rl.done (RW.cond_f rfl (RW.skip (RW.sreg (rl.run 4 rfl (rl.done (RW.ret ?_))))))
             cases h95
             exact RRet.mk rfl .bool (by first | decide | simp)
            ·have h96 := iteBT h94 hb
             refine rl.done (RW.cond_t rfl (RW.sreg (rl.run 5 rfl (rl.done (RW.ret ?_)))))
             cases h96
             exact RRet.mk rfl .bool (by first | decide | simp)
           ·have h97 := iteBT h86 hb
            refine RW.cond_t rfl (RW.sreg (rl.run 1 rfl (rl.done (RW.ret ?_))))
            cases h97
            exact RRet.mk rfl .bool (by first | decide | simp)
         ·have h98 := iteBT h77 hb
          refine RW.cond_t rfl (RW.sreg (rl.run 1 rfl (rl.done (RW.ret ?_))))
          cases h98
          exact RRet.mk rfl .bool (by first | decide | simp)
       ·have h99 := iteBT h66 hb
        refine RW.cond_t rfl (RW.sreg (rl.run 1 rfl (rl.done (RW.ret ?_))))
        cases h99
        exact RRet.mk rfl .bool (by first | decide | simp)
  ·have h100 := iteBT h1 hb
   refine RW.cond_t rfl (RW.sreg (rl.run 1 rfl (rl.done (RW.ret ?_))))
   cases h100
   exact RRet.mk rfl .bool (by first | decide | simp)
theorem law_spec_ItemsOk {x0 : List TItem} {r : Bool} (hF : F_spec_ItemsOk x0 = some r) : PCalls Tryz.prog 46 [.lst false 9 (fl (enc_TItem false) x0) x0.length] (.bool r) := by
 refine PCalls.of_r k_spec_ItemsOk rfl ?_
 unfold F_spec_ItemsOk at hF
 refine RW.sreg (rl.run 1 rfl (rl.done (RW.seq (RW.sreg (rl.run 1 rfl (rl.done ?_))))))
 obtain ⟨y16, ey16, h2⟩ := bindS hF
 refine RW.cutq (σ := Unit) (fun y2 => [(0, .lst false 9 (fl (enc_TItem false) x0) x0.length)]) (fun y2 => []) (fun y => y16 = .inr y) (fun _ _ _ _ g h => RW.gh g h) ?_ ?_
 ·refine RW.blk ?_
  refine RW.iter (σ := Int) ey16 (fun s1 => [(0, .lst false 9 (fl (enc_TItem false) x0) x0.length), (3, .int .i64 s1)]) (fun s1 => []) (Gh.ren0 [] .nil rfl (.cons rfl (.dat (ek_TItem.rlst)) (.cons rfl (.dat .int) .nil))) (fun s1 B o hS1 hB1 hE1 => ?_)
  unfold S_spec_ItemsOk_1 at hS1
  refine RW.seq (RW.sreg (rl.run 3 rfl ?_))
  refine rl.gen rfl rfl fun b hb => ?_
  cases b
  ·have h3 := iteBF hS1 hb
   refine rl.done (RW.cond_f rfl (RW.exit (blkA_eq ?_)))
   cases h3
   exact ⟨_, (hE1 _ rfl).symm, (Gh.ren0 [] .nil rfl (.cons rfl (.dat (ek_TItem.rlst)) .nil))⟩
  ·have h4 := iteBT hS1 hb
   refine rl.done (RW.cond_t rfl (RW.skip (RW.seq (RW.blk (RW.seq (RW.seq ?_))))))
   obtain ⟨y3, ey3, h5⟩ := bindS h4
   refine RW.cutq (σ := Bool) (fun y3 => [(0, .lst false 9 (fl (enc_TItem false) x0) x0.length), (3, .int .i64 s1), (26, .bool y3)]) (fun y3 => []) (fun y => y3 = y) (fun _ _ _ _ g h => RW.gh g h) ?_ ?_
   ·refine RW.reg ?_
    refine rl.run 2 rfl ?_
    obtain ⟨v4, e4, h6⟩ := bindS ey3
    refine rl.op (x_ia_lst (enc := enc_TItem) (o := false) rfl rfl rfl e4) ?_
    refine rl.run 1 rfl ?_
    refine rl.op (x_ld_el (off' := 0) ek_TItem rfl e4 rfl rfl rfl) ?_
    obtain ⟨v5, e5, h7⟩ := bindS h6
    refine rl.call rfl rfl rfl (CallW.val (r' := .bool v5) ok_spec_l01In (law_spec_l01In e5) (.cons .int (.cons .int (.cons .int .nil))) .refl ?_)
    cases hb : v5
    ·have h8 := iteBF h7 hb
     refine rl.run 10 rfl (rl.done ?_)
     cases h8
     exact ⟨_, rfl, (Gh.ren0 [] .nil rfl (.cons rfl (.dat (ek_TItem.rlst)) (.cons rfl (.dat .int) (.cons rfl (.dat .bool) .nil))))⟩
    ·have h9 := iteBT h7 hb
     refine rl.run 4 rfl ?_
     obtain ⟨v6, e6, h10⟩ := bindS h9
     refine rl.gop rfl (x_ia_lst (enc := enc_TItem) (o := false) rfl rfl rfl e6) ?_
     refine rl.run 1 rfl ?_
     refine rl.gop rfl (x_ld_ela (off' := 1) (vs := (enc_TRec false v6.Rec)) ek_TItem rfl e6 rfl rfl rfl) ?_
     obtain ⟨v7, e7, h11⟩ := bindS h10
     refine rl.call rfl rfl rfl (CallW.val (r' := .bool v7) ok_spec_RecOk (law_spec_RecOk e7) (.cons (.dat (.agg (ek_TRec.dat false _))) .nil) .refl ?_)
     cases hb : v7
     ·have h12 := iteBF h11 hb
      refine rl.run 2 rfl (rl.done ?_)
      cases h12
      exact ⟨_, rfl, (Gh.ren0 [] .nil rfl (.cons rfl (.dat (ek_TItem.rlst)) (.cons rfl (.dat .int) (.cons rfl (.dat .bool) .nil))))⟩
     ·have h13 := iteBT h11 hb
      refine rl.run 2 rfl (rl.done ?_)
      cases h13
      exact ⟨_, rfl, (Gh.ren0 [] .nil rfl (.cons rfl (.dat (ek_TItem.rlst)) (.cons rfl (.dat .int) (.cons rfl (.dat .bool) .nil))))⟩
   ·intro y hC
    subst hC
    cases hb : y3
    ·have h14 := iteBF h5 hb
     refine RW.cond_f rfl (RW.skip (RW.sreg (rl.run 1 rfl (rl.done ?_))))
     obtain ⟨y15, ey15, h16⟩ := bindS h14
     refine RW.cutq (σ := Unit) (fun y9 => [(0, .lst false 9 (fl (enc_TItem false) x0) x0.length), (3, .int .i64 s1)]) (fun y9 => []) (fun y => y15 = .inr y) (fun _ _ _ _ g h => RW.gh g h) ?_ ?_
     ·refine RW.blk ?_
      refine RW.iter (σ := Int) ey15 (fun s8 => [(0, .lst false 9 (fl (enc_TItem false) x0) x0.length), (3, .int .i64 s1), (4, .int .i64 s8)]) (fun s8 => []) (Gh.ren0 [] .nil rfl (.cons rfl (.dat (ek_TItem.rlst)) (.cons rfl (.dat .int) (.cons rfl (.dat .int) .nil)))) (fun s8 B o hS15 hB15 hE15 => ?_)
      unfold S_spec_ItemsOk_2 at hS15
      refine RW.seq (RW.sreg (rl.run 2 rfl ?_))
      refine rl.gen rfl rfl fun b hb => ?_
      cases b
      ·have h17 := iteBF hS15 hb
       refine rl.done (RW.cond_f rfl (RW.exit (blkA_eq ?_)))
       cases h17
       exact ⟨_, (hE15 _ rfl).symm, (Gh.ren0 [] .nil rfl (.cons rfl (.dat (ek_TItem.rlst)) (.cons rfl (.dat .int) .nil)))⟩
      ·have h18 := iteBT hS15 hb
       refine rl.done (RW.cond_t rfl (RW.skip (RW.seq (RW.blk (RW.seq ?_)))))
       obtain ⟨y10, ey10, h19⟩ := bindS h18
       refine RW.cutq (σ := Bool) (fun y10 => [(0, .lst false 9 (fl (enc_TItem false) x0) x0.length), (3, .int .i64 s1), (4, .int .i64 s8), (53, .bool y10)]) (fun y10 => []) (fun y => y10 = y) (fun _ _ _ _ g h => RW.gh g h) ?_ ?_
       ·refine RW.drw ?_
        refine rdraw.op rfl rfl (rdraw.op rfl rfl ?_)
        obtain ⟨v11, e11, h20⟩ := bindS ey10
        refine rdraw.op rfl (x_ia_lst (enc := enc_TItem) (o := false) rfl rfl rfl e11) ?_
        refine rdraw.op rfl rfl ?_
        refine rdraw.op rfl (x_ld_el (off' := 0) ek_TItem rfl e11 rfl rfl rfl) ?_
        refine rdraw.op rfl rfl (rdraw.op rfl rfl ?_)
        obtain ⟨v12, e12, h21⟩ := bindS h20
        refine rdraw.op rfl (x_ia_lst (enc := enc_TItem) (o := false) rfl rfl rfl e12) ?_
        refine rdraw.op rfl rfl ?_
        refine rdraw.op rfl (x_ld_el (off' := 0) ek_TItem rfl e12 rfl rfl rfl) ?_
        refine rdraw.gen rfl rfl fun b hb => ?_
        cases b
        ·have h22 := iteBF h21 hb
         refine rdraw.op rfl rfl (rdraw.off rfl (rdraw.off rfl (rdraw.off rfl (rdraw.off rfl (rdraw.off rfl (rdraw.off rfl (rdraw.off rfl (rdraw.off rfl (rdraw.off rfl (rdraw.op rfl rfl (rdraw.done ?_)))))))))))
         cases h22
         exact ⟨_, rfl, (Gh.ren0 [] .nil rfl (.cons rfl (.dat (ek_TItem.rlst)) (.cons rfl (.dat .int) (.cons rfl (.dat .int) (.cons rfl (.dat .bool) .nil)))))⟩
        ·have h23 := iteBT h21 hb
         refine rdraw.op rfl rfl (rdraw.op rfl rfl (rdraw.op rfl rfl ?_))
         obtain ⟨v13, e13, h24⟩ := bindS h23
         refine rdraw.op rfl (x_ia_lst (enc := enc_TItem) (o := false) rfl rfl rfl e13) ?_
         refine rdraw.op rfl (x_ld_ela (off' := 0) (vs := (enc_TItem false v13)) ek_TItem rfl e13 rfl rfl rfl) ?_
         refine rdraw.op rfl rfl (rdraw.op rfl rfl ?_)
         obtain ⟨v14, e14, h25⟩ := bindS h24
         refine rdraw.op rfl (x_ia_lst (enc := enc_TItem) (o := false) rfl rfl rfl e14) ?_
         refine rdraw.op rfl (x_ld_ela (off' := 0) (vs := (enc_TItem false v14)) ek_TItem rfl e14 rfl rfl rfl) ?_
         refine rdraw.gen rfl rfl fun b hb => ?_
         cases b
         ·have h26 := iteBF h25 hb
          refine rdraw.op rfl rfl (rdraw.done ?_)
          cases h26
          exact ⟨_, rfl, (Gh.ren0 [] .nil rfl (.cons rfl (.dat (ek_TItem.rlst)) (.cons rfl (.dat .int) (.cons rfl (.dat .int) (.cons rfl (.dat .bool) .nil)))))⟩
         ·have h27 := iteBT h25 hb
          refine rdraw.op rfl rfl (rdraw.done ?_)
          cases h27
          exact ⟨_, rfl, (Gh.ren0 [] .nil rfl (.cons rfl (.dat (ek_TItem.rlst)) (.cons rfl (.dat .int) (.cons rfl (.dat .int) (.cons rfl (.dat .bool) .nil)))))⟩
       ·intro y hC
        subst hC
        cases hb : y10
        ·have h28 := iteBF h19 hb
         refine RW.cond_f rfl (RW.skip (RW.reg (rl.run 3 rfl (rl.done ?_))))
         cases h28
         exact hB15 _ rfl _ _ (Gh.ren0 [] .nil rfl (.cons rfl (.dat (ek_TItem.rlst)) (.cons rfl (.dat .int) (.cons rfl (.dat .int) .nil))))
        ·have h29 := iteBT h19 hb
         refine RW.cond_t rfl (RW.sreg (rl.run 1 rfl (rl.done (RW.ret ?_))))
         cases h29
         have h30 := elimL h16 (hE15 _ rfl)
         cases h30
         have h31 := elimL h2 (hE1 _ rfl)
         cases h31
         exact RRet.mk rfl .bool (by first | decide | simp)
     ·intro y9 hC
      have h16 := elimR h16 hC
      refine RW.reg (rl.run 3 rfl (rl.done ?_))
      cases h16
      exact hB1 _ rfl _ _ (Gh.ren0 [] .nil rfl (.cons rfl (.dat (ek_TItem.rlst)) (.cons rfl (.dat .int) .nil)))
    ·have h32 := iteBT h5 hb
     refine RW.cond_t rfl (RW.sreg (rl.run 1 rfl (rl.done (RW.ret ?_))))
     cases h32
     have h33 := elimL h2 (hE1 _ rfl)
     cases h33
     exact RRet.mk rfl .bool (by first | decide | simp)
 ·intro y2 hC
  have h2 := elimR h2 hC
  refine RW.sreg (rl.run 4 rfl (rl.done (RW.ret ?_)))
  cases h2
  exact RRet.mk rfl .bool (by first | decide | simp)
theorem law_spec_l08Bigger {x0 : TItem} {x1 : TItem} {r : Bool} (hF : F_spec_l08Bigger x0 x1 = some r) : PCalls Tryz.prog 66 [.agg (enc_TItem false x0), .agg (enc_TItem false x1)] (.bool r) := by
 refine PCalls.of_r k_spec_l08Bigger rfl ?_
 unfold F_spec_l08Bigger at hF
 refine RW.sreg (rl.run 3 rfl (rl.done (RW.seq ?_)))
 obtain ⟨y1, ey1, h1⟩ := bindS hF
 refine RW.cutq (σ := Bool) (fun y1 => [(4, .bool y1)]) (fun y1 => []) (fun y => y1 = y) (fun _ _ _ _ g h => RW.gh g h) ?_ ?_
 ·refine RW.reg ?_
  refine rl.run 6 rfl ?_
  refine rl.gen rfl rfl fun b hb => ?_
  cases b
  ·have h2 := iteBF ey1 hb
   refine rl.run 7 rfl ?_
   refine rl.gen rfl rfl fun b hb => ?_
   cases b
   ·have h3 := iteBF h2 hb
    refine rl.run 9 rfl (rl.done ?_)
    cases h3
    exact ⟨_, rfl, (Gh.ren0 [] .nil rfl (.cons rfl (.dat .bool) .nil))⟩
   ·have h4 := iteBT h2 hb
    refine rl.run 9 rfl (rl.done ?_)
    cases h4
    exact ⟨_, rfl, (Gh.ren0 [] .nil rfl (.cons rfl (.dat .bool) .nil))⟩
  ·have h5 := iteBT ey1 hb
   refine rl.run 17 rfl (rl.done ?_)
   cases h5
   exact ⟨_, rfl, (Gh.ren0 [] .nil rfl (.cons rfl (.dat .bool) .nil))⟩
 ·intro y hC
  subst hC
  refine RW.ret ?_
  cases h1
  exact RRet.mk rfl .bool (by first | decide | simp)
theorem law_spec_l07Best {x0 : List TItem} {x1 : Int} {x2 : Int} {x3 : Int} {r : TItem × Bool} (hF : F_spec_l07Best x0 x1 x2 x3 = some r) : PCalls Tryz.prog 68 [.lst false 9 (fl (enc_TItem false) x0) x0.length, .int .i64 x1, .int .i64 x2, .int .i64 x3] (.tup [.agg (enc_TItem true r.1), .bool r.2]) := by
 refine PCalls.of_r k_spec_l07Best rfl ?_
 unfold F_spec_l07Best at hF
 refine RW.sreg (rl.run 2 rfl (rl.done (RW.sreg (rl.run 3 rfl (rl.done (RW.sreg (rl.run 1 rfl (rl.done (RW.seq (RW.sreg (rl.run 1 rfl ?_)))))))))))
 refine rl.done ?_
 obtain ⟨y5, ey5, h2⟩ := bindS hF
 refine RW.cutq (σ := Bool × Int × Int × Int × Int × Int × Int × (List UInt8) × (List UInt8) × (List UInt8)) (fun y2 => [(8, .ptr 0 0), (10, .ptr 1 0), (11, .bool y2.1)]) (fun y2 => [some ⟨[.int .i64 0, .int .i64 0, .int .i64 0, .int .i64 0, .int .i64 0, .int .i64 0, .str [], .str [], .str []], 0⟩, some ⟨[.int .i64 y2.2.1, .int .i64 y2.2.2.1, .int .i64 y2.2.2.2.1, .int .i64 y2.2.2.2.2.1, .int .i64 y2.2.2.2.2.2.1, .int .i64 y2.2.2.2.2.2.2.1, .str y2.2.2.2.2.2.2.2.1, .str y2.2.2.2.2.2.2.2.2.1, .str y2.2.2.2.2.2.2.2.2.2], 0⟩]) (fun y => y5 = y) (fun _ _ _ _ g h => RW.gh g h) ?_ ?_
 ·refine RW.blk ?_
  refine RW.iter (σ := Bool × Int × Int × Int × Int × Int × Int × Int × (List UInt8) × (List UInt8) × (List UInt8)) ey5 (fun s1 => [(0, .lst false 9 (fl (enc_TItem false) x0) x0.length), (1, .int .i64 x1), (2, .int .i64 x2), (3, .int .i64 x3), (8, .ptr 0 0), (10, .ptr 1 0), (11, .bool s1.1), (12, .int .i64 s1.2.1)]) (fun s1 => [some ⟨[.int .i64 0, .int .i64 0, .int .i64 0, .int .i64 0, .int .i64 0, .int .i64 0, .str [], .str [], .str []], 0⟩, some ⟨[.int .i64 s1.2.2.1, .int .i64 s1.2.2.2.1, .int .i64 s1.2.2.2.2.1, .int .i64 s1.2.2.2.2.2.1, .int .i64 s1.2.2.2.2.2.2.1, .int .i64 s1.2.2.2.2.2.2.2.1, .str s1.2.2.2.2.2.2.2.2.1, .str s1.2.2.2.2.2.2.2.2.2.1, .str s1.2.2.2.2.2.2.2.2.2.2], 0⟩]) (Gh.ren0 [0, 1] (.cells rfl rfl (.keep .int (.keep .int (.keep .int (.keep .int (.keep .int (.keep .int (.keep .str (.keep .str (.keep .str .nil))))))))) (.cells rfl rfl (.keep .int (.keep .int (.keep .int (.keep .int (.keep .int (.keep .int (.keep .str (.keep .str (.keep .str .nil))))))))) .nil)) rfl (.cons rfl (.dat (ek_TItem.rlst)) (.cons rfl (.dat .int) (.cons rfl (.dat .int) (.cons rfl (.dat .int) (.cons rfl (.ptr rfl) (.cons rfl (.ptr rfl) (.cons rfl (.dat .bool) (.cons rfl (.dat .int) .nil))))))))) (fun s1 B o hS1 hB1 hE1 => ?_)
  unfold S_spec_l07Best_1 at hS1
  refine RW.seq (RW.sreg (rl.run 3 rfl ?_))
  refine rl.gen rfl rfl fun b hb => ?_
  cases b
  ·have h3 := iteBF hS1 hb
   refine rl.done (RW.cond_f rfl (RW.exit (blkA_eq ?_)))
   cases h3
   exact ⟨_, (hE1 _ rfl).symm, (Gh.ren0 [0, 1] (.cells rfl rfl (.keep .int (.keep .int (.keep .int (.keep .int (.keep .int (.keep .int (.keep .str (.keep .str (.keep .str .nil))))))))) (.cells rfl rfl (.keep .int (.keep .int (.keep .int (.keep .int (.keep .int (.keep .int (.keep .str (.keep .str (.keep .str .nil))))))))) .nil)) rfl (.cons rfl (.ptr rfl) (.cons rfl (.ptr rfl) (.cons rfl (.dat .bool) .nil))))⟩
  ·have h4 := iteBT hS1 hb
   refine rl.done (RW.cond_t rfl (RW.skip (RW.seq (RW.blk (RW.sreg (rl.run 2 rfl ?_))))))
   obtain ⟨v3, e3, h5⟩ := bindS h4
   refine rl.op (x_ia_lst (enc := enc_TItem) (o := false) rfl rfl rfl e3) ?_
   refine rl.op (x_ld_ela (off' := 0) (vs := (enc_TItem false v3)) ek_TItem rfl e3 rfl rfl rfl) ?_
   refine rl.run 2 rfl (rl.done (RW.seq ?_))
   obtain ⟨y4, ey4, h6⟩ := bindS h5
   refine RW.cutq (σ := Bool) (fun y4 => [(0, .lst false 9 (fl (enc_TItem false) x0) x0.length), (1, .int .i64 x1), (2, .int .i64 x2), (3, .int .i64 x3), (8, .ptr 0 0), (10, .ptr 1 0), (11, .bool s1.1), (12, .int .i64 s1.2.1), (13, .ptr 2 0), (54, .bool y4)]) (fun y4 => [some ⟨[.int .i64 0, .int .i64 0, .int .i64 0, .int .i64 0, .int .i64 0, .int .i64 0, .str [], .str [], .str []], 0⟩, some ⟨[.int .i64 s1.2.2.1, .int .i64 s1.2.2.2.1, .int .i64 s1.2.2.2.2.1, .int .i64 s1.2.2.2.2.2.1, .int .i64 s1.2.2.2.2.2.2.1, .int .i64 s1.2.2.2.2.2.2.2.1, .str s1.2.2.2.2.2.2.2.2.1, .str s1.2.2.2.2.2.2.2.2.2.1, .str s1.2.2.2.2.2.2.2.2.2.2], 0⟩, some ⟨[.int .i64 v3.Seq, .int .i64 v3.Rec.Kind, .int .i64 v3.Rec.Valid, .int .i64 v3.Rec.Uid, .int .i64 v3.Rec.Next, .int .i64 v3.Rec.Flags, .str v3.Rec.User, .str v3.Rec.Name, .str v3.Rec.Text], 0⟩]) (fun y => y4 = y) (fun _ _ _ _ g h => RW.gh g h) ?_ ?_
   ·refine RW.reg ?_
    refine rl.run 4 rfl ?_
    refine rl.gen rfl rfl fun b hb => ?_
    cases b
    ·have h7 := iteBF ey4 hb
     refine rl.run 25 rfl (rl.done ?_)
     cases h7
     exact ⟨_, rfl, (Gh.ren0 [0, 1, 2] (.cells rfl rfl (.keep .int (.keep .int (.keep .int (.keep .int (.keep .int (.keep .int (.keep .str (.keep .str (.keep .str .nil))))))))) (.cells rfl rfl (.keep .int (.keep .int (.keep .int (.keep .int (.keep .int (.keep .int (.keep .str (.keep .str (.keep .str .nil))))))))) (.cells rfl rfl (.keep .int (.keep .int (.keep .int (.keep .int (.keep .int (.keep .int (.keep .str (.keep .str (.keep .str .nil))))))))) .nil))) rfl (.cons rfl (.dat (ek_TItem.rlst)) (.cons rfl (.dat .int) (.cons rfl (.dat .int) (.cons rfl (.dat .int) (.cons rfl (.ptr rfl) (.cons rfl (.ptr rfl) (.cons rfl (.dat .bool) (.cons rfl (.dat .int) (.cons rfl (.ptr rfl) (.cons rfl (.dat .bool) .nil)))))))))))⟩
    ·have h8 := iteBT ey4 hb
     refine rl.run 5 rfl ?_
     refine rl.gen rfl rfl fun b hb => ?_
     cases b
     ·have h9 := iteBF h8 hb
      refine rl.run 19 rfl (rl.done ?_)
      cases h9
      exact ⟨_, rfl, (Gh.ren0 [0, 1, 2] (.cells rfl rfl (.keep .int (.keep .int (.keep .int (.keep .int (.keep .int (.keep .int (.keep .str (.keep .str (.keep .str .nil))))))))) (.cells rfl rfl (.keep .int (.keep .int (.keep .int (.keep .int (.keep .int (.keep .int (.keep .str (.keep .str (.keep .str .nil))))))))) (.cells rfl rfl (.keep .int (.keep .int (.keep .int (.keep .int (.keep .int (.keep .int (.keep .str (.keep .str (.keep .str .nil))))))))) .nil))) rfl (.cons rfl (.dat (ek_TItem.rlst)) (.cons rfl (.dat .int) (.cons rfl (.dat .int) (.cons rfl (.dat .int) (.cons rfl (.ptr rfl) (.cons rfl (.ptr rfl) (.cons rfl (.dat .bool) (.cons rfl (.dat .int) (.cons rfl (.ptr rfl) (.cons rfl (.dat .bool) .nil)))))))))))⟩
     ·have h10 := iteBT h8 hb
      refine rl.run 6 rfl ?_
      refine rl.gen rfl rfl fun b hb => ?_
      cases b
      ·have h11 := iteBF h10 hb
       refine rl.run 12 rfl (rl.done ?_)
       cases h11
       exact ⟨_, rfl, (Gh.ren0 [0, 1, 2] (.cells rfl rfl (.keep .int (.keep .int (.keep .int (.keep .int (.keep .int (.keep .int (.keep .str (.keep .str (.keep .str .nil))))))))) (.cells rfl rfl (.keep .int (.keep .int (.keep .int (.keep .int (.keep .int (.keep .int (.keep .str (.keep .str (.keep .str .nil))))))))) (.cells rfl rfl (.keep .int (.keep .int (.keep .int (.keep .int (.keep .int (.keep .int (.keep .str (.keep .str (.keep .str .nil))))))))) .nil))) rfl (.cons rfl (.dat (ek_TItem.rlst)) (.cons rfl (.dat .int) (.cons rfl (.dat .int) (.cons rfl (.dat .int) (.cons rfl (.ptr rfl) (.cons rfl (.ptr rfl) (.cons rfl (.dat .bool) (.cons rfl (.dat .int) (.cons rfl (.ptr rfl) (.cons rfl (.dat .bool) .nil)))))))))))⟩
      ·have h12 := iteBT h10 hb
       refine rl.run 5 rfl ?_
       cases hb : (!s1.1)
       ·have h13 := iteBF h12 hb
        refine rl.run 4 rfl ?_
        refine rl.gen rfl rfl fun b hb => ?_
        cases b
        ·have h14 := iteBF h13 hb
         refine rl.run 2 rfl (rl.done ?_)
         cases h14
         exact ⟨_, rfl, (Gh.ren0 [0, 1, 2] (.cells rfl rfl (.keep .int (.keep .int (.keep .int (.keep .int (.keep .int (.keep .int (.keep .str (.keep .str (.keep .str .nil))))))))) (.cells rfl rfl (.keep .int (.keep .int (.keep .int (.keep .int (.keep .int (.keep .int (.keep .str (.keep .str (.keep .str .nil))))))))) (.cells rfl rfl (.keep .int (.keep .int (.keep .int (.keep .int (.keep .int (.keep .int (.keep .str (.keep .str (.keep .str .nil))))))))) .nil))) rfl (.cons rfl (.dat (ek_TItem.rlst)) (.cons rfl (.dat .int) (.cons rfl (.dat .int) (.cons rfl (.dat .int) (.cons rfl (.ptr rfl) (.cons rfl (.ptr rfl) (.cons rfl (.dat .bool) (.cons rfl (.dat .int) (.cons rfl (.ptr rfl) (.cons rfl (.dat .bool) .nil)))))))))))⟩
        ·have h15 := iteBT h13 hb
         refine rl.run 2 rfl (rl.done ?_)
         cases h15
         exact ⟨_, rfl, (Gh.ren0 [0, 1, 2] (.cells rfl rfl (.keep .int (.keep .int (.keep .int (.keep .int (.keep .int (.keep .int (.keep .str (.keep .str (.keep .str .nil))))))))) (.cells rfl rfl (.keep .int (.keep .int (.keep .int (.keep .int (.keep .int (.keep .int (.keep .str (.keep .str (.keep .str .nil))))))))) (.cells rfl rfl (.keep .int (.keep .int (.keep .int (.keep .int (.keep .int (.keep .int (.keep .str (.keep .str (.keep .str .nil))))))))) .nil))) rfl (.cons rfl (.dat (ek_TItem.rlst)) (.cons rfl (.dat .int) (.cons rfl (.dat .int) (.cons rfl (.dat .int) (.cons rfl (.ptr rfl) (.cons rfl (.ptr rfl) (.cons rfl (.dat .bool) (.cons rfl (.dat .int) (.cons rfl (.ptr rfl) (.cons rfl (.dat .bool) .nil)))))))))))⟩
       ·have h16 := iteBT h12 hb
        refine rl.run 7 rfl (rl.done ?_)
        cases h16
        exact ⟨_, rfl, (Gh.ren0 [0, 1, 2] (.cells rfl rfl (.keep .int (.keep .int (.keep .int (.keep .int (.keep .int (.keep .int (.keep .str (.keep .str (.keep .str .nil))))))))) (.cells rfl rfl (.keep .int (.keep .int (.keep .int (.keep .int (.keep .int (.keep .int (.keep .str (.keep .str (.keep .str .nil))))))))) (.cells rfl rfl (.keep .int (.keep .int (.keep .int (.keep .int (.keep .int (.keep .int (.keep .str (.keep .str (.keep .str .nil))))))))) .nil))) rfl (.cons rfl (.dat (ek_TItem.rlst)) (.cons rfl (.dat .int) (.cons rfl (.dat .int) (.cons rfl (.dat .int) (.cons rfl (.ptr rfl) (.cons rfl (.ptr rfl) (.cons rfl (.dat .bool) (.cons rfl (.dat .int) (.cons rfl (.ptr rfl) (.cons rfl (.dat .bool) .nil)))))))))))⟩
   ·intro y hC
    subst hC
    cases hb : y4
    ·have h17 := iteBF h6 hb
     refine RW.cond_f rfl (RW.skip (RW.reg (rl.run 3 rfl (rl.done ?_))))
     cases h17
     exact hB1 _ rfl _ _ (Gh.ren0 [0, 1] (.cells rfl rfl (.keep .int (.keep .int (.keep .int (.keep .int (.keep .int (.keep .int (.keep .str (.keep .str (.keep .str .nil))))))))) (.cells rfl rfl (.keep .int (.keep .int (.keep .int (.keep .int (.keep .int (.keep .int (.keep .str (.keep .str (.keep .str .nil))))))))) .nil)) rfl (.cons rfl (.dat (ek_TItem.rlst)) (.cons rfl (.dat .int) (.cons rfl (.dat .int) (.cons rfl (.dat .int) (.cons rfl (.ptr rfl) (.cons rfl (.ptr rfl) (.cons rfl (.dat .bool) (.cons rfl (.dat .int) .nil)))))))))
    ·have h18 := iteBT h6 hb
     refine RW.cond_t rfl (RW.sreg (rl.run 2 rfl (rl.done (RW.reg (rl.run 1 rfl (rl.done (RW.reg (rl.run 3 rfl (rl.done ?_)))))))))
     cases h18
     exact hB1 _ rfl _ _ (Gh.ren0 [0, 1] (.cells rfl rfl (.keep .int (.keep .int (.keep .int (.keep .int (.keep .int (.keep .int (.keep .str (.keep .str (.keep .str .nil))))))))) (.cells rfl rfl (.keep .int (.keep .int (.keep .int (.keep .int (.keep .int (.keep .int (.keep .str (.keep .str (.keep .str .nil))))))))) .nil)) rfl (.cons rfl (.dat (ek_TItem.rlst)) (.cons rfl (.dat .int) (.cons rfl (.dat .int) (.cons rfl (.dat .int) (.cons rfl (.ptr rfl) (.cons rfl (.ptr rfl) (.cons rfl (.dat .bool) (.cons rfl (.dat .int) .nil)))))))))
 ·intro y2 hC
  subst hC
  refine RW.sreg (rl.run 4 rfl (rl.done (RW.ret ?_)))
  cases h2
  exact RRet.mk rfl (OutT.tup (.cons (OutL.agg (.cons .int rfl (.cons .int rfl (.cons .int rfl (.cons .int rfl (.cons .int rfl (.cons .int rfl (.cons .str rfl (.cons .str rfl (.cons .str rfl .nil)))))))))) (.cons .bool .nil))) (by first | decide | simp)
theorem law_spec_l08Has {x0 : List TItem} {x1 : Int} {x2 : Int} {x3 : Int} {r : Bool} (hF : F_spec_l08Has x0 x1 x2 x3 = some r) : PCalls Tryz.prog 69 [.lst false 9 (fl (enc_TItem false) x0) x0.length, .int .i64 x1, .int .i64 x2, .int .i64 x3] (.bool r) := by
 refine PCalls.of_r k_spec_l08Has rfl ?_
 unfold F_spec_l08Has at hF
 refine RW.sreg (rl.run 1 rfl (rl.done (RW.sreg (rl.run 4 rfl ?_))))
 obtain ⟨v1, e1, h1⟩ := bindS hF
 refine rl.call rfl rfl rfl (CallW.val (r' := .tup [.agg (enc_TItem false v1.1), .bool v1.2]) ok_spec_l07Best (law_spec_l07Best e1) (.cons (.lst ek_TItem) (.cons .int (.cons .int (.cons .int .nil)))) (FlL.tup (.cons .refl (.cons .refl .nil))) ?_)
 refine rl.run 6 rfl (rl.done ?_)
 refine RW.keep [10] (a' := [(10, .bool v1.2)]) (H' := [some ⟨[.int .i64 v1.1.Seq, .int .i64 v1.1.Rec.Kind, .int .i64 v1.1.Rec.Valid, .int .i64 v1.1.Rec.Uid, .int .i64 v1.1.Rec.Next, .int .i64 v1.1.Rec.Flags, .str v1.1.Rec.User, .str v1.1.Rec.Name, .str v1.1.Rec.Text], 0⟩]) rfl rfl ?_
 refine RW.sreg (rl.run 2 rfl (rl.done (RW.ret ?_)))
 cases h1
 exact RRet.mk rfl .bool (by first | decide | simp)
theorem law_spec_l08There {x0 : List TItem} {x1 : Int} {r : Bool} (hF : F_spec_l08There x0 x1 = some r) : PCalls Tryz.prog 67 [.lst false 9 (fl (enc_TItem false) x0) x0.length, .int .i64 x1] (.bool r) := by
 refine PCalls.of_r k_spec_l08There rfl ?_
 unfold F_spec_l08There at hF
 refine RW.sreg (rl.run 1 rfl (rl.done (RW.sreg (rl.run 2 rfl ?_))))
 obtain ⟨v1, e1, h1⟩ := bindS hF
 refine rl.call rfl rfl rfl (CallW.val (r' := .bool v1) ok_spec_l08Has (law_spec_l08Has e1) (.cons (.lst ek_TItem) (.cons .int (.cons .int (.cons .int .nil)))) .refl ?_)
 cases hb : v1
 ·have h2 := iteBF h1 hb
  refine rl.run 7 rfl (rl.done ?_)
  refine RW.keep [4] (a' := [(4, .bool false)]) (H' := []) rfl rfl ?_
  refine RW.ret ?_
  cases h2
  exact RRet.mk rfl .bool (by first | decide | simp)
 ·have h3 := iteBT h1 hb
  refine rl.run 3 rfl ?_
  obtain ⟨v2, e2, h4⟩ := bindS h3
  refine rl.call rfl rfl rfl (CallW.val (r' := .bool v2) ok_spec_l08Has (law_spec_l08Has e2) (.cons (.lst ek_TItem) (.cons .int (.cons .int (.cons .int .nil)))) .refl ?_)
  refine rl.run 3 rfl (rl.done ?_)
  refine RW.keep [4] (a' := [(4, .bool (!v2))]) (H' := []) rfl rfl ?_
  refine RW.ret ?_
  cases h4
  exact RRet.mk rfl .bool (by first | decide | simp)
theorem law_spec_l08Need {x0 : List TItem} {x1 : Int} {r : Bool} (hF : F_spec_l08Need x0 x1 = some r) : PCalls Tryz.prog 47 [.lst false 9 (fl (enc_TItem false) x0) x0.length, .int .i64 x1] (.bool r) := by
 refine PCalls.of_r k_spec_l08Need rfl ?_
 unfold F_spec_l08Need at hF
 refine RW.sreg (rl.run 1 rfl (rl.done (RW.sreg (rl.run 2 rfl ?_))))
 obtain ⟨v1, e1, h1⟩ := bindS hF
 refine rl.op (x_ia_lst (enc := enc_TItem) (o := false) rfl rfl rfl e1) ?_
 refine rl.op (x_ld_ela (off' := 0) (vs := (enc_TItem false v1)) ek_TItem rfl e1 rfl rfl rfl) ?_
 refine rl.run 2 rfl (rl.done (RW.sreg (rl.run 4 rfl (rl.done (RW.seq (RW.sreg (rl.run 1 rfl (rl.done ?_))))))))
 obtain ⟨y5, ey5, h3⟩ := bindS h1
 refine RW.cutq (σ := Unit) (fun y3 => [(0, .lst false 9 (fl (enc_TItem false) x0) x0.length), (5, .ptr 0 0), (6, .ptr 1 0)]) (fun y3 => [some ⟨[.int .i64 v1.Seq, .int .i64 v1.Rec.Kind, .int .i64 v1.Rec.Valid, .int .i64 v1.Rec.Uid, .int .i64 v1.Rec.Next, .int .i64 v1.Rec.Flags, .str v1.Rec.User, .str v1.Rec.Name, .str v1.Rec.Text], 0⟩, some ⟨[.int .i64 v1.Rec.Kind, .int .i64 v1.Rec.Valid, .int .i64 v1.Rec.Uid, .int .i64 v1.Rec.Next, .int .i64 v1.Rec.Flags, .str v1.Rec.User, .str v1.Rec.Name, .str v1.Rec.Text], 0⟩]) (fun y => y5 = .inr y) (fun _ _ _ _ g h => RW.gh g h) ?_ ?_
 ·refine RW.blk ?_
  refine RW.iter (σ := Int) ey5 (fun s2 => [(0, .lst false 9 (fl (enc_TItem false) x0) x0.length), (1, .int .i64 x1), (5, .ptr 0 0), (6, .ptr 1 0), (7, .int .i64 s2)]) (fun s2 => [some ⟨[.int .i64 v1.Seq, .int .i64 v1.Rec.Kind, .int .i64 v1.Rec.Valid, .int .i64 v1.Rec.Uid, .int .i64 v1.Rec.Next, .int .i64 v1.Rec.Flags, .str v1.Rec.User, .str v1.Rec.Name, .str v1.Rec.Text], 0⟩, some ⟨[.int .i64 v1.Rec.Kind, .int .i64 v1.Rec.Valid, .int .i64 v1.Rec.Uid, .int .i64 v1.Rec.Next, .int .i64 v1.Rec.Flags, .str v1.Rec.User, .str v1.Rec.Name, .str v1.Rec.Text], 0⟩]) (Gh.ren0 [0, 1] (.cells rfl rfl (.keep .int (.keep .int (.keep .int (.keep .int (.keep .int (.keep .int (.keep .str (.keep .str (.keep .str .nil))))))))) (.cells rfl rfl (.keep .int (.keep .int (.keep .int (.keep .int (.keep .int (.keep .str (.keep .str (.keep .str .nil)))))))) .nil)) rfl (.cons rfl (.dat (ek_TItem.rlst)) (.cons rfl (.dat .int) (.cons rfl (.ptr rfl) (.cons rfl (.ptr rfl) (.cons rfl (.dat .int) .nil)))))) (fun s2 B o hS2 hB2 hE2 => ?_)
  unfold S_spec_l08Need_1 at hS2
  refine RW.seq (RW.sreg (rl.run 2 rfl ?_))
  refine rl.gen rfl rfl fun b hb => ?_
  cases b
  ·have h4 := iteBF hS2 hb
   refine rl.done (RW.cond_f rfl (RW.exit (blkA_eq ?_)))
   cases h4
   exact ⟨_, (hE2 _ rfl).symm, (Gh.ren0 [0, 1] (.cells rfl rfl (.keep .int (.keep .int (.keep .int (.keep .int (.keep .int (.keep .int (.keep .str (.keep .str (.keep .str .nil))))))))) (.cells rfl rfl (.keep .int (.keep .int (.keep .int (.keep .int (.keep .int (.keep .str (.keep .str (.keep .str .nil)))))))) .nil)) rfl (.cons rfl (.dat (ek_TItem.rlst)) (.cons rfl (.ptr rfl) (.cons rfl (.ptr rfl) .nil))))⟩
  ·have h5 := iteBT hS2 hb
   refine rl.done (RW.cond_t rfl (RW.skip (RW.seq (RW.blk (RW.sdrw (rdraw.op rfl rfl (rdraw.op rfl rfl ?_)))))))
   obtain ⟨v4, e4, h6⟩ := bindS h5
   refine rdraw.op rfl (x_ia_lst (enc := enc_TItem) (o := false) rfl rfl rfl e4) ?_
   refine rdraw.op rfl rfl ?_
   refine rdraw.op rfl (x_ld_el (off' := 0) ek_TItem rfl e4 rfl rfl rfl) ?_
   refine rdraw.op rfl rfl (rdraw.op rfl rfl ?_)
   refine rdraw.gen rfl rfl fun b hb => ?_
   cases b
   ·have h7 := iteBF h6 hb
    refine rdraw.done (RW.cond_f rfl (RW.skip (RW.reg (rl.run 3 rfl (rl.done ?_)))))
    cases h7
    exact hB2 _ rfl _ _ (Gh.ren0 [0, 1] (.cells rfl rfl (.keep .int (.keep .int (.keep .int (.keep .int (.keep .int (.keep .int (.keep .str (.keep .str (.keep .str .nil))))))))) (.cells rfl rfl (.keep .int (.keep .int (.keep .int (.keep .int (.keep .int (.keep .str (.keep .str (.keep .str .nil)))))))) .nil)) rfl (.cons rfl (.dat (ek_TItem.rlst)) (.cons rfl (.dat .int) (.cons rfl (.ptr rfl) (.cons rfl (.ptr rfl) (.cons rfl (.dat .int) .nil))))))
   ·have h8 := iteBT h6 hb
    refine rdraw.done (RW.cond_t rfl (RW.sreg (rl.run 1 rfl (rl.done ?_))))
    refine RW.keep [4] (a' := [(4, .bool false)]) (H' := [some ⟨[.int .i64 v1.Seq, .int .i64 v1.Rec.Kind, .int .i64 v1.Rec.Valid, .int .i64 v1.Rec.Uid, .int .i64 v1.Rec.Next, .int .i64 v1.Rec.Flags, .str v1.Rec.User, .str v1.Rec.Name, .str v1.Rec.Text], 0⟩, some ⟨[.int .i64 v1.Rec.Kind, .int .i64 v1.Rec.Valid, .int .i64 v1.Rec.Uid, .int .i64 v1.Rec.Next, .int .i64 v1.Rec.Flags, .str v1.Rec.User, .str v1.Rec.Name, .str v1.Rec.Text], 0⟩]) rfl rfl ?_
    refine RW.ret ?_
    cases h8
    have h9 := elimL h3 (hE2 _ rfl)
    cases h9
    exact RRet.mk rfl .bool (by first | decide | simp)
 ·intro y3 hC
  have h3 := elimR h3 hC
  refine RW.seq (RW.sreg (rl.run 2 rfl (rl.done (RW.blk (RW.sreg ?_)))))
  refine rl.gen rfl rfl fun b hb => ?_
  cases b
  ·have h10 := iteBF h3 hb
   refine rl.run 1 rfl (rl.done (RW.cond_f rfl (RW.sreg ?_)))
   refine rl.gen rfl rfl fun b hb => ?_
   cases b
   ·have h11 := iteBF h10 hb
    refine rl.run 1 rfl (rl.done (RW.cond_f rfl (RW.sreg ?_)))
    refine rl.gen rfl rfl fun b hb => ?_
    cases b
    ·have h12 := iteBF h11 hb
     refine rl.run 1 rfl (rl.done (RW.cond_f rfl (RW.skip (RW.sreg (rl.run 7 rfl ?_)))))
     obtain ⟨v6, e6, h13⟩ := bindS h12
     refine rl.call rfl rfl rfl (CallW.val (r' := .tup [.agg (enc_TItem false v6.1), .bool v6.2]) ok_spec_l07Best (law_spec_l07Best e6) (.cons (.lst ek_TItem) (.cons .int (.cons .int (.cons .int .nil)))) (FlL.tup (.cons .refl (.cons .refl .nil))) ?_)
     refine rl.run 6 rfl (rl.done ?_)
     refine RW.keep [0, 5, 6, 14] (a' := [(0, .lst false 9 (fl (enc_TItem false) x0) x0.length), (5, .ptr 0 0), (6, .ptr 1 0), (14, .ptr 2 0)]) (H' := [some ⟨[.int .i64 v1.Seq, .int .i64 v1.Rec.Kind, .int .i64 v1.Rec.Valid, .int .i64 v1.Rec.Uid, .int .i64 v1.Rec.Next, .int .i64 v1.Rec.Flags, .str v1.Rec.User, .str v1.Rec.Name, .str v1.Rec.Text], 0⟩, some ⟨[.int .i64 v1.Rec.Kind, .int .i64 v1.Rec.Valid, .int .i64 v1.Rec.Uid, .int .i64 v1.Rec.Next, .int .i64 v1.Rec.Flags, .str v1.Rec.User, .str v1.Rec.Name, .str v1.Rec.Text], 0⟩, some ⟨[.int .i64 v6.1.Seq, .int .i64 v6.1.Rec.Kind, .int .i64 v6.1.Rec.Valid, .int .i64 v6.1.Rec.Uid, .int .i64 v6.1.Rec.Next, .int .i64 v6.1.Rec.Flags, .str v6.1.Rec.User, .str v6.1.Rec.Name, .str v6.1.Rec.Text], 0⟩]) rfl rfl ?_
     refine RW.seq ?_
     obtain ⟨y7, ey7, h14⟩ := bindS h13
     refine RW.cutq (σ := Bool) (fun y7 => [(4, .bool y7)]) (fun y7 => []) (fun y => y7 = y) (fun _ _ _ _ g h => RW.gh g h) ?_ ?_
     ·refine RW.reg ?_
      refine rl.run 3 rfl ?_
      obtain ⟨v8, e8, h15⟩ := bindS ey7
      refine rl.call rfl rfl rfl (CallW.val (r' := .bool v8) ok_spec_l08There (law_spec_l08There e8) (.cons (.lst ek_TItem) (.cons .int .nil)) .refl ?_)
      cases hb : v8
      ·have h16 := iteBF h15 hb
       refine rl.run 25 rfl (rl.done ?_)
       cases h16
       exact ⟨_, rfl, (Gh.ren0 [] .nil rfl (.cons rfl (.dat .bool) .nil))⟩
      ·have h17 := iteBT h15 hb
       refine rl.run 6 rfl ?_
       obtain ⟨v9, e9, h18⟩ := bindS h17
       refine rl.call rfl rfl rfl (CallW.val (r' := .bool v9) ok_spec_l08Has (law_spec_l08Has e9) (.cons (.lst ek_TItem) (.cons .int (.cons .int (.cons .int .nil)))) .refl ?_)
       cases hb : v9
       ·have h19 := iteBF h18 hb
        refine rl.run 18 rfl (rl.done ?_)
        cases h19
        exact ⟨_, rfl, (Gh.ren0 [] .nil rfl (.cons rfl (.dat .bool) .nil))⟩
       ·have h20 := iteBT h18 hb
        refine rl.run 7 rfl ?_
        obtain ⟨v10, e10, h21⟩ := bindS h20
        refine rl.call rfl rfl rfl (CallW.val (r' := .bool v10) ok_spec_l08Has (law_spec_l08Has e10) (.cons (.lst ek_TItem) (.cons .int (.cons .int (.cons .int .nil)))) .refl ?_)
        cases hb : v10
        ·have h22 := iteBF h21 hb
         refine rl.run 10 rfl (rl.done ?_)
         cases h22
         exact ⟨_, rfl, (Gh.ren0 [] .nil rfl (.cons rfl (.dat .bool) .nil))⟩
        ·have h23 := iteBT h21 hb
         refine rl.run 10 rfl (rl.done ?_)
         cases h23
         exact ⟨_, rfl, (Gh.ren0 [] .nil rfl (.cons rfl (.dat .bool) .nil))⟩
     ·intro y hC
      subst hC
      refine RW.ret ?_
      cases h14
      exact RRet.mk rfl .bool (by first | decide | simp)
    ·have h24 := iteBT h11 hb
     refine rl.run 1 rfl (rl.done (RW.cond_t rfl (RW.sreg (rl.run 5 rfl ?_))))
     obtain ⟨v11, e11, h25⟩ := bindS h24
     refine rl.call rfl rfl rfl (CallW.val (r' := .tup [.agg (enc_TItem false v11.1), .bool v11.2]) ok_spec_l07Best (law_spec_l07Best e11) (.cons (.lst ek_TItem) (.cons .int (.cons .int (.cons .int .nil)))) (FlL.tup (.cons .refl (.cons .refl .nil))) ?_)
     refine rl.run 6 rfl (rl.done ?_)
     refine RW.keep [0, 5, 6, 12] (a' := [(0, .lst false 9 (fl (enc_TItem false) x0) x0.length), (5, .ptr 0 0), (6, .ptr 1 0), (12, .ptr 2 0)]) (H' := [some ⟨[.int .i64 v1.Seq, .int .i64 v1.Rec.Kind, .int .i64 v1.Rec.Valid, .int .i64 v1.Rec.Uid, .int .i64 v1.Rec.Next, .int .i64 v1.Rec.Flags, .str v1.Rec.User, .str v1.Rec.Name, .str v1.Rec.Text], 0⟩, some ⟨[.int .i64 v1.Rec.Kind, .int .i64 v1.Rec.Valid, .int .i64 v1.Rec.Uid, .int .i64 v1.Rec.Next, .int .i64 v1.Rec.Flags, .str v1.Rec.User, .str v1.Rec.Name, .str v1.Rec.Text], 0⟩, some ⟨[.int .i64 v11.1.Seq, .int .i64 v11.1.Rec.Kind, .int .i64 v11.1.Rec.Valid, .int .i64 v11.1.Rec.Uid, .int .i64 v11.1.Rec.Next, .int .i64 v11.1.Rec.Flags, .str v11.1.Rec.User, .str v11.1.Rec.Name, .str v11.1.Rec.Text], 0⟩]) rfl rfl ?_
     refine RW.seq ?_
     obtain ⟨y12, ey12, h26⟩ := bindS h25
     refine RW.cutq (σ := Bool) (fun y12 => [(4, .bool y12)]) (fun y12 => []) (fun y => y12 = y) (fun _ _ _ _ g h => RW.gh g h) ?_ ?_
     ·refine RW.reg ?_
      refine rl.run 3 rfl ?_
      obtain ⟨v13, e13, h27⟩ := bindS ey12
      refine rl.call rfl rfl rfl (CallW.val (r' := .bool v13) ok_spec_l08There (law_spec_l08There e13) (.cons (.lst ek_TItem) (.cons .int .nil)) .refl ?_)
      cases hb : v13
      ·have h28 := iteBF h27 hb
       refine rl.run 16 rfl (rl.done ?_)
       cases h28
       exact ⟨_, rfl, (Gh.ren0 [] .nil rfl (.cons rfl (.dat .bool) .nil))⟩
      ·have h29 := iteBT h27 hb
       refine rl.run 6 rfl ?_
       obtain ⟨v14, e14, h30⟩ := bindS h29
       refine rl.call rfl rfl rfl (CallW.val (r' := .bool v14) ok_spec_l08Has (law_spec_l08Has e14) (.cons (.lst ek_TItem) (.cons .int (.cons .int (.cons .int .nil)))) .refl ?_)
       cases hb : v14
       ·have h31 := iteBF h30 hb
        refine rl.run 9 rfl (rl.done ?_)
        cases h31
        exact ⟨_, rfl, (Gh.ren0 [] .nil rfl (.cons rfl (.dat .bool) .nil))⟩
       ·have h32 := iteBT h30 hb
        refine rl.run 9 rfl (rl.done ?_)
        cases h32
        exact ⟨_, rfl, (Gh.ren0 [] .nil rfl (.cons rfl (.dat .bool) .nil))⟩
     ·intro y hC
      subst hC
      refine RW.ret ?_
      cases h26
      exact RRet.mk rfl .bool (by first | decide | simp)
   ·have h33 := iteBT h10 hb
    refine rl.run 1 rfl (rl.done (RW.cond_t rfl (RW.sreg (rl.run 3 rfl ?_))))
    obtain ⟨v15, e15, h34⟩ := bindS h33
    refine rl.call rfl rfl rfl (CallW.val (r' := .tup [.agg (enc_TItem false v15.1), .bool v15.2]) ok_spec_l07Best (law_spec_l07Best e15) (.cons (.lst ek_TItem) (.cons .int (.cons .int (.cons .int .nil)))) (FlL.tup (.cons .refl (.cons .refl .nil))) ?_)
    refine rl.run 6 rfl (rl.done ?_)
    refine RW.keep [0, 5, 6, 9] (a' := [(0, .lst false 9 (fl (enc_TItem false) x0) x0.length), (5, .ptr 0 0), (6, .ptr 1 0), (9, .ptr 2 0)]) (H' := [some ⟨[.int .i64 v1.Seq, .int .i64 v1.Rec.Kind, .int .i64 v1.Rec.Valid, .int .i64 v1.Rec.Uid, .int .i64 v1.Rec.Next, .int .i64 v1.Rec.Flags, .str v1.Rec.User, .str v1.Rec.Name, .str v1.Rec.Text], 0⟩, some ⟨[.int .i64 v1.Rec.Kind, .int .i64 v1.Rec.Valid, .int .i64 v1.Rec.Uid, .int .i64 v1.Rec.Next, .int .i64 v1.Rec.Flags, .str v1.Rec.User, .str v1.Rec.Name, .str v1.Rec.Text], 0⟩, some ⟨[.int .i64 v15.1.Seq, .int .i64 v15.1.Rec.Kind, .int .i64 v15.1.Rec.Valid, .int .i64 v15.1.Rec.Uid, .int .i64 v15.1.Rec.Next, .int .i64 v15.1.Rec.Flags, .str v15.1.Rec.User, .str v15.1.Rec.Name, .str v15.1.Rec.Text], 0⟩]) rfl rfl ?_
    refine RW.seq (RW.sreg (rl.run 1 rfl (rl.done ?_)))
    obtain ⟨y21, ey21, h36⟩ := bindS h34
    refine RW.cutq (σ := Unit) (fun y17 => []) (fun y17 => []) (fun y => y21 = .inr y) (fun _ _ _ _ g h => RW.gh g h) ?_ ?_
    ·refine RW.blk ?_
     refine RW.iter (σ := Int) ey21 (fun s16 => [(0, .lst false 9 (fl (enc_TItem false) x0) x0.length), (5, .ptr 0 0), (6, .ptr 1 0), (9, .ptr 2 0), (11, .int .i64 s16)]) (fun s16 => [some ⟨[.int .i64 v1.Seq, .int .i64 v1.Rec.Kind, .int .i64 v1.Rec.Valid, .int .i64 v1.Rec.Uid, .int .i64 v1.Rec.Next, .int .i64 v1.Rec.Flags, .str v1.Rec.User, .str v1.Rec.Name, .str v1.Rec.Text], 0⟩, some ⟨[.int .i64 v1.Rec.Kind, .int .i64 v1.Rec.Valid, .int .i64 v1.Rec.Uid, .int .i64 v1.Rec.Next, .int .i64 v1.Rec.Flags, .str v1.Rec.User, .str v1.Rec.Name, .str v1.Rec.Text], 0⟩, some ⟨[.int .i64 v15.1.Seq, .int .i64 v15.1.Rec.Kind, .int .i64 v15.1.Rec.Valid, .int .i64 v15.1.Rec.Uid, .int .i64 v15.1.Rec.Next, .int .i64 v15.1.Rec.Flags, .str v15.1.Rec.User, .str v15.1.Rec.Name, .str v15.1.Rec.Text], 0⟩]) (Gh.ren0 [0, 1, 2] (.cells rfl rfl (.keep .int (.keep .int (.keep .int (.keep .int (.keep .int (.keep .int (.keep .str (.keep .str (.keep .str .nil))))))))) (.cells rfl rfl (.keep .int (.keep .int (.keep .int (.keep .int (.keep .int (.keep .str (.keep .str (.keep .str .nil)))))))) (.cells rfl rfl (.keep .int (.keep .int (.keep .int (.keep .int (.keep .int (.keep .int (.keep .str (.keep .str (.keep .str .nil))))))))) .nil))) rfl (.cons rfl (.dat (ek_TItem.rlst)) (.cons rfl (.ptr rfl) (.cons rfl (.ptr rfl) (.cons rfl (.ptr rfl) (.cons rfl (.dat .int) .nil)))))) (fun s16 B o hS35 hB35 hE35 => ?_)
     unfold S_spec_l08Need_2 at hS35
     refine RW.seq (RW.sreg (rl.run 3 rfl ?_))
     refine rl.gen rfl rfl fun b hb => ?_
     cases b
     ·have h37 := iteBF hS35 hb
      refine rl.done (RW.cond_f rfl (RW.exit (blkA_eq ?_)))
      cases h37
      exact ⟨_, (hE35 _ rfl).symm, (Gh.ren0 [] .nil rfl .nil)⟩
     ·have h38 := iteBT hS35 hb
      refine rl.done (RW.cond_t rfl (RW.skip (RW.seq (RW.blk (RW.seq ?_)))))
      obtain ⟨y18, ey18, h39⟩ := bindS h38
      refine RW.cutq (σ := Bool) (fun y18 => [(0, .lst false 9 (fl (enc_TItem false) x0) x0.length), (5, .ptr 0 0), (6, .ptr 1 0), (9, .ptr 2 0), (11, .int .i64 s16), (107, .bool y18)]) (fun y18 => [some ⟨[.int .i64 v1.Seq, .int .i64 v1.Rec.Kind, .int .i64 v1.Rec.Valid, .int .i64 v1.Rec.Uid, .int .i64 v1.Rec.Next, .int .i64 v1.Rec.Flags, .str v1.Rec.User, .str v1.Rec.Name, .str v1.Rec.Text], 0⟩, some ⟨[.int .i64 v1.Rec.Kind, .int .i64 v1.Rec.Valid, .int .i64 v1.Rec.Uid, .int .i64 v1.Rec.Next, .int .i64 v1.Rec.Flags, .str v1.Rec.User, .str v1.Rec.Name, .str v1.Rec.Text], 0⟩, some ⟨[.int .i64 v15.1.Seq, .int .i64 v15.1.Rec.Kind, .int .i64 v15.1.Rec.Valid, .int .i64 v15.1.Rec.Uid, .int .i64 v15.1.Rec.Next, .int .i64 v15.1.Rec.Flags, .str v15.1.Rec.User, .str v15.1.Rec.Name, .str v15.1.Rec.Text], 0⟩]) (fun y => y18 = y) (fun _ _ _ _ g h => RW.gh g h) ?_ ?_
      ·refine RW.drw ?_
       refine rdraw.op rfl rfl (rdraw.op rfl rfl ?_)
       obtain ⟨v19, e19, h40⟩ := bindS ey18
       refine rdraw.op rfl (x_ia_lst (enc := enc_TItem) (o := false) rfl rfl rfl e19) ?_
       refine rdraw.op rfl rfl (rdraw.op rfl rfl ?_)
       refine rdraw.op rfl (x_ld_el (off' := 1) ek_TItem rfl e19 rfl rfl rfl) ?_
       refine rdraw.gen rfl rfl fun b hb => ?_
       cases b
       ·have h41 := iteBF h40 hb
        refine rdraw.op rfl rfl (rdraw.off rfl (rdraw.off rfl (rdraw.off rfl (rdraw.off rfl (rdraw.off rfl (rdraw.off rfl (rdraw.off rfl (rdraw.off rfl (rdraw.off rfl (rdraw.op rfl rfl (rdraw.done ?_)))))))))))
        cases h41
        exact ⟨_, rfl, (Gh.ren0 [0, 1, 2] (.cells rfl rfl (.keep .int (.keep .int (.keep .int (.keep .int (.keep .int (.keep .int (.keep .str (.keep .str (.keep .str .nil))))))))) (.cells rfl rfl (.keep .int (.keep .int (.keep .int (.keep .int (.keep .int (.keep .str (.keep .str (.keep .str .nil)))))))) (.cells rfl rfl (.keep .int (.keep .int (.keep .int (.keep .int (.keep .int (.keep .int (.keep .str (.keep .str (.keep .str .nil))))))))) .nil))) rfl (.cons rfl (.dat (ek_TItem.rlst)) (.cons rfl (.ptr rfl) (.cons rfl (.ptr rfl) (.cons rfl (.ptr rfl) (.cons rfl (.dat .int) (.cons rfl (.dat .bool) .nil)))))))⟩
       ·have h42 := iteBT h40 hb
        refine rdraw.op rfl rfl (rdraw.op rfl rfl (rdraw.op rfl rfl ?_))
        obtain ⟨v20, e20, h43⟩ := bindS h42
        refine rdraw.op rfl (x_ia_lst (enc := enc_TItem) (o := false) rfl rfl rfl e20) ?_
        refine rdraw.op rfl rfl (rdraw.op rfl rfl ?_)
        refine rdraw.op rfl (x_ld_el (off' := 2) ek_TItem rfl e20 rfl rfl rfl) ?_
        refine rdraw.op rfl rfl (rdraw.op rfl rfl ?_)
        refine rdraw.gen rfl rfl fun b hb => ?_
        cases b
        ·have h44 := iteBF h43 hb
         refine rdraw.op rfl rfl (rdraw.done ?_)
         cases h44
         exact ⟨_, rfl, (Gh.ren0 [0, 1, 2] (.cells rfl rfl (.keep .int (.keep .int (.keep .int (.keep .int (.keep .int (.keep .int (.keep .str (.keep .str (.keep .str .nil))))))))) (.cells rfl rfl (.keep .int (.keep .int (.keep .int (.keep .int (.keep .int (.keep .str (.keep .str (.keep .str .nil)))))))) (.cells rfl rfl (.keep .int (.keep .int (.keep .int (.keep .int (.keep .int (.keep .int (.keep .str (.keep .str (.keep .str .nil))))))))) .nil))) rfl (.cons rfl (.dat (ek_TItem.rlst)) (.cons rfl (.ptr rfl) (.cons rfl (.ptr rfl) (.cons rfl (.ptr rfl) (.cons rfl (.dat .int) (.cons rfl (.dat .bool) .nil)))))))⟩
        ·have h45 := iteBT h43 hb
         refine rdraw.op rfl rfl (rdraw.done ?_)
         cases h45
         exact ⟨_, rfl, (Gh.ren0 [0, 1, 2] (.cells rfl rfl (.keep .int (.keep .int (.keep .int (.keep .int (.keep .int (.keep .int (.keep .str (.keep .str (.keep .str .nil))))))))) (.cells rfl rfl (.keep .int (.keep .int (.keep .int (.keep .int (.keep .int (.keep .str (.keep .str (.keep .str .nil)))))))) (.cells rfl rfl (.keep .int (.keep .int (.keep .int (.keep .int (.keep .int (.keep .int (.keep .str (.keep .str (.keep .str .nil))))))))) .nil))) rfl (.cons rfl (.dat (ek_TItem.rlst)) (.cons rfl (.ptr rfl) (.cons rfl (.ptr rfl) (.cons rfl (.ptr rfl) (.cons rfl (.dat .int) (.cons rfl (.dat .bool) .nil)))))))⟩
      ·intro y hC
       subst hC
       cases hb : y18
       ·have h46 := iteBF h39 hb
        refine RW.cond_f rfl (RW.skip (RW.reg (rl.run 3 rfl (rl.done ?_))))
        cases h46
        exact hB35 _ rfl _ _ (Gh.ren0 [0, 1, 2] (.cells rfl rfl (.keep .int (.keep .int (.keep .int (.keep .int (.keep .int (.keep .int (.keep .str (.keep .str (.keep .str .nil))))))))) (.cells rfl rfl (.keep .int (.keep .int (.keep .int (.keep .int (.keep .int (.keep .str (.keep .str (.keep .str .nil)))))))) (.cells rfl rfl (.keep .int (.keep .int (.keep .int (.keep .int (.keep .int (.keep .int (.keep .str (.keep .str (.keep .str .nil))))))))) .nil))) rfl (.cons rfl (.dat (ek_TItem.rlst)) (.cons rfl (.ptr rfl) (.cons rfl (.ptr rfl) (.cons rfl (.ptr rfl) (.cons rfl (.dat .int) .nil))))))
       ·have h47 := iteBT h39 hb
        refine RW.cond_t rfl (RW.sreg (rl.run 6 rfl (rl.done ?_)))
        refine RW.keep [4] (a' := [(4, .bool (v15.1.Seq == v1.Seq))]) (H' := [some ⟨[.int .i64 v1.Seq, .int .i64 v1.Rec.Kind, .int .i64 v1.Rec.Valid, .int .i64 v1.Rec.Uid, .int .i64 v1.Rec.Next, .int .i64 v1.Rec.Flags, .str v1.Rec.User, .str v1.Rec.Name, .str v1.Rec.Text], 0⟩, some ⟨[.int .i64 v1.Rec.Kind, .int .i64 v1.Rec.Valid, .int .i64 v1.Rec.Uid, .int .i64 v1.Rec.Next, .int .i64 v1.Rec.Flags, .str v1.Rec.User, .str v1.Rec.Name, .str v1.Rec.Text], 0⟩, some ⟨[.int .i64 v15.1.Seq, .int .i64 v15.1.Rec.Kind, .int .i64 v15.1.Rec.Valid, .int .i64 v15.1.Rec.Uid, .int .i64 v15.1.Rec.Next, .int .i64 v15.1.Rec.Flags, .str v15.1.Rec.User, .str v15.1.Rec.Name, .str v15.1.Rec.Text], 0⟩]) rfl rfl ?_
        refine RW.ret ?_
        cases h47
        have h48 := elimL h36 (hE35 _ rfl)
        cases h48
        exact RRet.mk rfl .bool (by first | decide | simp)
    ·intro y17 hC
     have h36 := elimR h36 hC
     refine RW.sreg (rl.run 1 rfl (rl.done (RW.ret ?_)))
     cases h36
     exact RRet.mk rfl .bool (by first | decide | simp)
  ·have h49 := iteBT h3 hb
   refine rl.run 1 rfl (rl.done (RW.cond_t rfl (RW.seq (RW.sreg (rl.run 1 rfl (rl.done ?_))))))
   obtain ⟨y29, ey29, h51⟩ := bindS h49
   refine RW.cutq (σ := Unit) (fun y23 => [(0, .lst false 9 (fl (enc_TItem false) x0) x0.length), (6, .ptr 0 0)]) (fun y23 => [some ⟨[.int .i64 v1.Rec.Kind, .int .i64 v1.Rec.Valid, .int .i64 v1.Rec.Uid, .int .i64 v1.Rec.Next, .int .i64 v1.Rec.Flags, .str v1.Rec.User, .str v1.Rec.Name, .str v1.Rec.Text], 0⟩]) (fun y => y29 = .inr y) (fun _ _ _ _ g h => RW.gh g h) ?_ ?_
   ·refine RW.blk ?_
    refine RW.iter (σ := Int) ey29 (fun s22 => [(0, .lst false 9 (fl (enc_TItem false) x0) x0.length), (5, .ptr 0 0), (6, .ptr 1 0), (8, .int .i64 s22)]) (fun s22 => [some ⟨[.int .i64 v1.Seq, .int .i64 v1.Rec.Kind, .int .i64 v1.Rec.Valid, .int .i64 v1.Rec.Uid, .int .i64 v1.Rec.Next, .int .i64 v1.Rec.Flags, .str v1.Rec.User, .str v1.Rec.Name, .str v1.Rec.Text], 0⟩, some ⟨[.int .i64 v1.Rec.Kind, .int .i64 v1.Rec.Valid, .int .i64 v1.Rec.Uid, .int .i64 v1.Rec.Next, .int .i64 v1.Rec.Flags, .str v1.Rec.User, .str v1.Rec.Name, .str v1.Rec.Text], 0⟩]) (Gh.ren0 [0, 1] (.cells rfl rfl (.keep .int (.keep .int (.keep .int (.keep .int (.keep .int (.keep .int (.keep .str (.keep .str (.keep .str .nil))))))))) (.cells rfl rfl (.keep .int (.keep .int (.keep .int (.keep .int (.keep .int (.keep .str (.keep .str (.keep .str .nil)))))))) .nil)) rfl (.cons rfl (.dat (ek_TItem.rlst)) (.cons rfl (.ptr rfl) (.cons rfl (.ptr rfl) (.cons rfl (.dat .int) .nil))))) (fun s22 B o hS50 hB50 hE50 => ?_)
    unfold S_spec_l08Need_3 at hS50
    refine RW.seq (RW.sreg (rl.run 3 rfl ?_))
    refine rl.gen rfl rfl fun b hb => ?_
    cases b
    ·have h52 := iteBF hS50 hb
     refine rl.done (RW.cond_f rfl (RW.exit (blkA_eq ?_)))
     cases h52
     exact ⟨_, (hE50 _ rfl).symm, (Gh.ren0 [1] (.cells rfl rfl (.keep .int (.keep .int (.keep .int (.keep .int (.keep .int (.keep .str (.keep .str (.keep .str .nil)))))))) .nil) rfl (.cons rfl (.dat (ek_TItem.rlst)) (.cons rfl (.ptr rfl) .nil)))⟩
    ·have h53 := iteBT hS50 hb
     refine rl.done (RW.cond_t rfl (RW.skip (RW.seq (RW.blk (RW.seq ?_)))))
     obtain ⟨y24, ey24, h54⟩ := bindS h53
     refine RW.cutq (σ := Bool) (fun y24 => [(0, .lst false 9 (fl (enc_TItem false) x0) x0.length), (5, .ptr 0 0), (6, .ptr 1 0), (8, .int .i64 s22), (70, .bool y24)]) (fun y24 => [some ⟨[.int .i64 v1.Seq, .int .i64 v1.Rec.Kind, .int .i64 v1.Rec.Valid, .int .i64 v1.Rec.Uid, .int .i64 v1.Rec.Next, .int .i64 v1.Rec.Flags, .str v1.Rec.User, .str v1.Rec.Name, .str v1.Rec.Text], 0⟩, some ⟨[.int .i64 v1.Rec.Kind, .int .i64 v1.Rec.Valid, .int .i64 v1.Rec.Uid, .int .i64 v1.Rec.Next, .int .i64 v1.Rec.Flags, .str v1.Rec.User, .str v1.Rec.Name, .str v1.Rec.Text], 0⟩]) (fun y => y24 = y) (fun _ _ _ _ g h => RW.gh g h) ?_ ?_
     ·refine RW.drw ?_
      refine rdraw.op rfl rfl (rdraw.op rfl rfl ?_)
      obtain ⟨v25, e25, h55⟩ := bindS ey24
      refine rdraw.op rfl (x_ia_lst (enc := enc_TItem) (o := false) rfl rfl rfl e25) ?_
      refine rdraw.op rfl rfl (rdraw.op rfl rfl ?_)
      refine rdraw.op rfl (x_ld_el (off' := 1) ek_TItem rfl e25 rfl rfl rfl) ?_
      refine rdraw.gen rfl rfl fun b hb => ?_
      cases b
      ·have h56 := iteBF h55 hb
       refine rdraw.op rfl rfl (rdraw.off rfl (rdraw.off rfl (rdraw.off rfl (rdraw.off rfl (rdraw.off rfl (rdraw.off rfl (rdraw.off rfl (rdraw.off rfl (rdraw.off rfl (rdraw.op rfl rfl (rdraw.op rfl rfl ?_)))))))))))
       refine rdraw.off rfl (rdraw.off rfl (rdraw.off rfl (rdraw.off rfl (rdraw.off rfl (rdraw.off rfl (rdraw.op rfl rfl (rdraw.done ?_)))))))
       cases h56
       exact ⟨_, rfl, (Gh.ren0 [0, 1] (.cells rfl rfl (.keep .int (.keep .int (.keep .int (.keep .int (.keep .int (.keep .int (.keep .str (.keep .str (.keep .str .nil))))))))) (.cells rfl rfl (.keep .int (.keep .int (.keep .int (.keep .int (.keep .int (.keep .str (.keep .str (.keep .str .nil)))))))) .nil)) rfl (.cons rfl (.dat (ek_TItem.rlst)) (.cons rfl (.ptr rfl) (.cons rfl (.ptr rfl) (.cons rfl (.dat .int) (.cons rfl (.dat .bool) .nil))))))⟩
      ·have h57 := iteBT h55 hb
       refine rdraw.op rfl rfl (rdraw.op rfl rfl (rdraw.op rfl rfl ?_))
       obtain ⟨v26, e26, h58⟩ := bindS h57
       refine rdraw.op rfl (x_ia_lst (enc := enc_TItem) (o := false) rfl rfl rfl e26) ?_
       refine rdraw.op rfl rfl (rdraw.op rfl rfl ?_)
       refine rdraw.op rfl (x_ld_el (off' := 2) ek_TItem rfl e26 rfl rfl rfl) ?_
       refine rdraw.op rfl rfl (rdraw.op rfl rfl ?_)
       refine rdraw.gen rfl rfl fun b hb => ?_
       cases b
       ·have h59 := iteBF h58 hb
        refine rdraw.op rfl rfl (rdraw.op rfl rfl (rdraw.off rfl (rdraw.off rfl (rdraw.off rfl (rdraw.off rfl (rdraw.off rfl (rdraw.off rfl (rdraw.op rfl rfl (rdraw.done ?_)))))))))
        cases h59
        exact ⟨_, rfl, (Gh.ren0 [0, 1] (.cells rfl rfl (.keep .int (.keep .int (.keep .int (.keep .int (.keep .int (.keep .int (.keep .str (.keep .str (.keep .str .nil))))))))) (.cells rfl rfl (.keep .int (.keep .int (.keep .int (.keep .int (.keep .int (.keep .str (.keep .str (.keep .str .nil)))))))) .nil)) rfl (.cons rfl (.dat (ek_TItem.rlst)) (.cons rfl (.ptr rfl) (.cons rfl (.ptr rfl) (.cons rfl (.dat .int) (.cons rfl (.dat .bool) .nil))))))⟩
       ·have h60 := iteBT h58 hb
        refine rdraw.op rfl rfl (rdraw.op rfl rfl (rdraw.op rfl rfl (rdraw.op rfl rfl ?_)))
        obtain ⟨v27, e27, h61⟩ := bindS h60
        refine rdraw.op rfl (x_ia_lst (enc := enc_TItem) (o := false) rfl rfl rfl e27) ?_
        refine rdraw.op rfl (x_ld_ela (off' := 0) (vs := (enc_TItem false v27)) ek_TItem rfl e27 rfl rfl rfl) ?_
        refine rdraw.op rfl rfl ?_
        obtain ⟨v28, e28, h62⟩ := bindS h61
        refine rdraw.call rfl rfl rfl (CallW.val (r' := .bool v28) ok_spec_l08Bigger (law_spec_l08Bigger e28) (.cons (.dat (.agg (ek_TItem.dat false _))) (.cons (DFL.agg (.cons .int (.cons .int (.cons .int (.cons .int (.cons .int (.cons .int (.cons .str (.cons .str (.cons .str .nil)))))))))) .nil)) .refl ⟨rfl, ?_⟩)
        cases hb : v28
        ·have h63 := iteBF h62 hb
         refine rdraw.op rfl rfl (rdraw.done ?_)
         cases h63
         exact ⟨_, rfl, (Gh.ren0 [0, 1] (.cells rfl rfl (.keep .int (.keep .int (.keep .int (.keep .int (.keep .int (.keep .int (.keep .str (.keep .str (.keep .str .nil))))))))) (.cells rfl rfl (.keep .int (.keep .int (.keep .int (.keep .int (.keep .int (.keep .str (.keep .str (.keep .str .nil)))))))) .nil)) rfl (.cons rfl (.dat (ek_TItem.rlst)) (.cons rfl (.ptr rfl) (.cons rfl (.ptr rfl) (.cons rfl (.dat .int) (.cons rfl (.dat .bool) .nil))))))⟩
        ·have h64 := iteBT h62 hb
         refine rdraw.op rfl rfl (rdraw.done ?_)
         cases h64
         exact ⟨_, rfl, (Gh.ren0 [0, 1] (.cells rfl rfl (.keep .int (.keep .int (.keep .int (.keep .int (.keep .int (.keep .int (.keep .str (.keep .str (.keep .str .nil))))))))) (.cells rfl rfl (.keep .int (.keep .int (.keep .int (.keep .int (.keep .int (.keep .str (.keep .str (.keep .str .nil)))))))) .nil)) rfl (.cons rfl (.dat (ek_TItem.rlst)) (.cons rfl (.ptr rfl) (.cons rfl (.ptr rfl) (.cons rfl (.dat .int) (.cons rfl (.dat .bool) .nil))))))⟩
     ·intro y hC
      subst hC
      cases hb : y24
      ·have h65 := iteBF h54 hb
       refine RW.cond_f rfl (RW.skip (RW.reg (rl.run 3 rfl (rl.done ?_))))
       cases h65
       exact hB50 _ rfl _ _ (Gh.ren0 [0, 1] (.cells rfl rfl (.keep .int (.keep .int (.keep .int (.keep .int (.keep .int (.keep .int (.keep .str (.keep .str (.keep .str .nil))))))))) (.cells rfl rfl (.keep .int (.keep .int (.keep .int (.keep .int (.keep .int (.keep .str (.keep .str (.keep .str .nil)))))))) .nil)) rfl (.cons rfl (.dat (ek_TItem.rlst)) (.cons rfl (.ptr rfl) (.cons rfl (.ptr rfl) (.cons rfl (.dat .int) .nil)))))
      ·have h66 := iteBT h54 hb
       refine RW.cond_t rfl (RW.sreg (rl.run 1 rfl (rl.done (RW.ret ?_))))
       cases h66
       have h67 := elimL h51 (hE50 _ rfl)
       cases h67
       exact RRet.mk rfl .bool (by first | decide | simp)
   ·intro y23 hC
    have h51 := elimR h51 hC
    refine RW.sreg (rl.run 3 rfl ?_)
    obtain ⟨v30, e30, h68⟩ := bindS h51
    refine rl.call rfl rfl rfl (CallW.val (r' := .bool v30) ok_spec_l08There (law_spec_l08There e30) (.cons (.lst ek_TItem) (.cons .int .nil)) .refl ?_)
    refine rl.run 1 rfl (rl.done (RW.ret ?_))
    cases h68
    exact RRet.mk rfl .bool (by first | decide | simp)
theorem law_spec_NeededAll {x0 : List TItem} {r : List Bool} (hF : F_spec_NeededAll x0 = some r) : PCalls Tryz.prog 28 [.lst false 9 (fl (enc_TItem false) x0) x0.length] (.lst true 1 (fl (encO true) r) r.length) := by
 refine PCalls.of_r k_spec_NeededAll rfl ?_
 unfold F_spec_NeededAll at hF
 refine RW.sreg (rl.run 1 rfl (rl.done (RW.sreg (rl.run 1 rfl ?_))))
 obtain ⟨v1, e1, h1⟩ := bindS hF
 refine rl.call rfl rfl rfl (CallW.val (r' := .bool v1) ok_spec_ItemsOk (law_spec_ItemsOk e1) (.cons (.lst ek_TItem) .nil) .refl ?_)
 cases hb : v1
 ·have h2 := iteBF h1 hb
  refine rl.run 1 rfl (rl.done (RW.sreg (rl.run 2 rfl (rl.done (RW.seq (RW.sreg (rl.run 1 rfl (rl.done ?_))))))))
  refine RW.gh (Gh.nil_t 4 1 rfl) ?_
  obtain ⟨y5, ey5, h4⟩ := bindS h2
  refine RW.cutq (σ := (List Bool)) (fun y3 => [(4, .sl 0 0 y3.length)]) (fun y3 => [some ⟨fl (encO true) y3, 1⟩]) (fun y => y5 = y) (fun _ _ _ _ g h => RW.gh g h) ?_ ?_
  ·refine RW.blk ?_
   refine RW.iter (σ := Int × (List Bool)) ey5 (fun s2 => [(0, .lst false 9 (fl (enc_TItem false) x0) x0.length), (3, .bool false), (4, .sl 0 0 s2.2.length), (5, .int .i64 s2.1)]) (fun s2 => [some ⟨fl (encO true) s2.2, 1⟩]) (Gh.ren0 [0] (.same rfl (ekO.fref _ _) .nil) rfl (.cons rfl (.dat (ek_TItem.rlst)) (.cons rfl (.dat .bool) (.cons rfl (.slq rfl rfl) (.cons rfl (.dat .int) .nil))))) (fun s2 B o hS3 hB3 hE3 => ?_)
   unfold S_spec_NeededAll_1 at hS3
   refine RW.seq (RW.sreg (rl.run 3 rfl ?_))
   refine rl.gen rfl rfl fun b hb => ?_
   cases b
   ·have h5 := iteBF hS3 hb
    refine rl.done (RW.cond_f rfl (RW.exit (blkA_eq ?_)))
    cases h5
    exact ⟨_, (hE3 _ rfl).symm, (Gh.ren0 [0] (.same rfl (ekO.fref _ _) .nil) rfl (.cons rfl (.slq rfl rfl) .nil))⟩
   ·have h6 := iteBT hS3 hb
    refine rl.done (RW.cond_t rfl (RW.skip (RW.seq (RW.blk (RW.reg (rl.run 8 rfl ?_))))))
    obtain ⟨v4, e4, h7⟩ := bindS h6
    refine rl.op (x_app rfl rfl (rapp_sl (l := s2.2) (m := [false]) (o := true) ekO rfl rfl (acont_slq (m := [false]) (o := true) fkO rfl rfl) rfl (fkO.fst _ _) e4)) ?_
    refine rl.run 1 rfl (rl.done (RW.reg (rl.run 3 rfl (rl.done ?_))))
    cases h7
    exact hB3 _ rfl _ _ (Gh.ren0 [2] (.same rfl (ekO.fref _ _) .nil) rfl (.cons rfl (.dat (ek_TItem.rlst)) (.cons rfl (.dat .bool) (.cons rfl (.slq rfl rfl) (.cons rfl (.dat .int) .nil)))))
  ·intro y3 hC
   subst hC
   refine RW.sreg (rl.run 2 rfl (rl.done (RW.ret ?_)))
   cases h4
   exact RRet.mk rfl (OutR.ownq ekO rfl rfl) (by first | decide | simp)
 ·have h8 := iteBT h1 hb
  refine rl.run 1 rfl (rl.done (RW.sreg (rl.run 2 rfl (rl.done (RW.seq (RW.sreg (rl.run 1 rfl (rl.done ?_))))))))
  refine RW.gh (Gh.nil_t 4 1 rfl) ?_
  obtain ⟨y10, ey10, h10⟩ := bindS h8
  refine RW.cutq (σ := (List Bool)) (fun y7 => [(4, .sl 0 0 y7.length)]) (fun y7 => [some ⟨fl (encO true) y7, 1⟩]) (fun y => y10 = y) (fun _ _ _ _ g h => RW.gh g h) ?_ ?_
  ·refine RW.blk ?_
   refine RW.iter (σ := Int × (List Bool)) ey10 (fun s6 => [(0, .lst false 9 (fl (enc_TItem false) x0) x0.length), (3, .bool true), (4, .sl 0 0 s6.2.length), (5, .int .i64 s6.1)]) (fun s6 => [some ⟨fl (encO true) s6.2, 1⟩]) (Gh.ren0 [0] (.same rfl (ekO.fref _ _) .nil) rfl (.cons rfl (.dat (ek_TItem.rlst)) (.cons rfl (.dat .bool) (.cons rfl (.slq rfl rfl) (.cons rfl (.dat .int) .nil))))) (fun s6 B o hS9 hB9 hE9 => ?_)
   unfold S_spec_NeededAll_2 at hS9
   refine RW.seq (RW.sreg (rl.run 3 rfl ?_))
   refine rl.gen rfl rfl fun b hb => ?_
   cases b
   ·have h11 := iteBF hS9 hb
    refine rl.done (RW.cond_f rfl (RW.exit (blkA_eq ?_)))
    cases h11
    exact ⟨_, (hE9 _ rfl).symm, (Gh.ren0 [0] (.same rfl (ekO.fref _ _) .nil) rfl (.cons rfl (.slq rfl rfl) .nil))⟩
   ·have h12 := iteBT hS9 hb
    refine rl.done (RW.cond_t rfl (RW.skip (RW.seq (RW.blk (RW.reg (rl.run 5 rfl ?_))))))
    obtain ⟨v8, e8, h13⟩ := bindS h12
    refine rl.call rfl rfl rfl (CallW.val (r' := .bool v8) ok_spec_l08Need (law_spec_l08Need e8) (.cons (.lst ek_TItem) (.cons .int .nil)) .refl ?_)
    refine rl.run 2 rfl ?_
    obtain ⟨v9, e9, h14⟩ := bindS h13
    refine rl.op (x_app rfl rfl (rapp_sl (l := s6.2) (m := [v8]) (o := true) ekO rfl rfl (acont_slq (m := [v8]) (o := true) fkO rfl rfl) rfl (fkO.fst _ _) e9)) ?_
    refine rl.run 1 rfl (rl.done (RW.reg (rl.run 3 rfl (rl.done ?_))))
    cases h14
    exact hB9 _ rfl _ _ (Gh.ren0 [2] (.same rfl (ekO.fref _ _) .nil) rfl (.cons rfl (.dat (ek_TItem.rlst)) (.cons rfl (.dat .bool) (.cons rfl (.slq rfl rfl) (.cons rfl (.dat .int) .nil)))))
  ·intro y7 hC
   subst hC
   refine RW.sreg (rl.run 2 rfl (rl.done (RW.ret ?_)))
   cases h10
   exact RRet.mk rfl (OutR.ownq ekO rfl rfl) (by first | decide | simp)
theorem law_spec_l12Freed {x0 : TStore} {x1 : Int} {r : Bool} (hF : F_spec_l12Freed x0 x1 = some r) : PCalls Tryz.prog 30 [.agg (enc_TStore false x0), .int .i64 x1] (.bool r) := by
 refine PCalls.of_r k_spec_l12Freed rfl ?_
 unfold F_spec_l12Freed at hF
 refine RW.sreg (rl.run 2 rfl (rl.done (RW.seq (RW.sreg (rl.run 1 rfl (rl.done ?_))))))
 obtain ⟨y4, ey4, h2⟩ := bindS hF
 refine RW.cutq (σ := Unit) (fun y2 => []) (fun y2 => []) (fun y => y4 = .inr y) (fun _ _ _ _ g h => RW.gh g h) ?_ ?_
 ·refine RW.blk ?_
  refine RW.iter (σ := Int) ey4 (fun s1 => [(1, .int .i64 x1), (2, .ptr 0 0), (5, .int .i64 s1)]) (fun s1 => [some ⟨[.lst false 1 (fl (encS false) x0.Log.Disk.Sectors) x0.Log.Disk.Sectors.length, .lst false 2 (fl (enc_TWrite false) x0.Log.Disk.Cache) x0.Log.Disk.Cache.length, .int .i64 x0.Log.Segs, .lst false 4 (fl (enc_TSeg false) x0.Log.Used) x0.Log.Used.length, .int .i64 x0.Log.NextGen, .int .i64 x0.Log.NextSeq, .int .i64 x0.Log.Stamp, .int .i64 x0.Log.NextValid, .lst false 1 (fl (encI false) x0.Freed) x0.Freed.length], 0⟩]) (Gh.ren0 [0] (.cells rfl rfl (.keep (ekS.rlst) (.keep (ek_TWrite.rlst) (.keep .int (.keep (ek_TSeg.rlst) (.keep .int (.keep .int (.keep .int (.keep .int (.keep (ekI.rlst) .nil))))))))) .nil) rfl (.cons rfl (.dat .int) (.cons rfl (.ptr rfl) (.cons rfl (.dat .int) .nil)))) (fun s1 B o hS1 hB1 hE1 => ?_)
  unfold S_spec_l12Freed_1 at hS1
  refine RW.seq (RW.sreg (rl.run 4 rfl ?_))
  refine rl.gen rfl rfl fun b hb => ?_
  cases b
  ·have h3 := iteBF hS1 hb
   refine rl.done (RW.cond_f rfl (RW.exit (blkA_eq ?_)))
   cases h3
   exact ⟨_, (hE1 _ rfl).symm, (Gh.ren0 [] .nil rfl .nil)⟩
  ·have h4 := iteBT hS1 hb
   refine rl.done (RW.cond_t rfl (RW.skip (RW.seq (RW.blk (RW.sreg (rl.run 3 rfl ?_))))))
   obtain ⟨v3, e3, h5⟩ := bindS h4
   refine rl.op (x_ia_lst (enc := encI) (o := false) rfl rfl rfl e3) ?_
   refine rl.op (x_ld_el (off' := 0) ekI rfl e3 rfl rfl rfl) ?_
   refine rl.run 1 rfl ?_
   refine rl.gen rfl rfl fun b hb => ?_
   cases b
   ·have h6 := iteBF h5 hb
    refine rl.done ?_
    refine RW.keep [1, 2, 5, 19] (a' := [(1, .int .i64 x1), (2, .ptr 0 0), (5, .int .i64 s1), (19, .bool false)]) (H' := [some ⟨[.lst false 1 (fl (encS false) x0.Log.Disk.Sectors) x0.Log.Disk.Sectors.length, .lst false 2 (fl (enc_TWrite false) x0.Log.Disk.Cache) x0.Log.Disk.Cache.length, .int .i64 x0.Log.Segs, .lst false 4 (fl (enc_TSeg false) x0.Log.Used) x0.Log.Used.length, .int .i64 x0.Log.NextGen, .int .i64 x0.Log.NextSeq, .int .i64 x0.Log.Stamp, .int .i64 x0.Log.NextValid, .lst false 1 (fl (encI false) x0.Freed) x0.Freed.length], 0⟩]) rfl rfl ?_
    refine RW.cond_f rfl (RW.skip (RW.reg (rl.run 3 rfl (rl.done ?_))))
    cases h6
    exact hB1 _ rfl _ _ (Gh.ren0 [0] (.cells rfl rfl (.keep (ekS.rlst) (.keep (ek_TWrite.rlst) (.keep .int (.keep (ek_TSeg.rlst) (.keep .int (.keep .int (.keep .int (.keep .int (.keep (ekI.rlst) .nil))))))))) .nil) rfl (.cons rfl (.dat .int) (.cons rfl (.ptr rfl) (.cons rfl (.dat .int) .nil))))
   ·have h7 := iteBT h5 hb
    refine rl.done ?_
    refine RW.keep [1, 2, 5, 19] (a' := [(1, .int .i64 x1), (2, .ptr 0 0), (5, .int .i64 s1), (19, .bool true)]) (H' := [some ⟨[.lst false 1 (fl (encS false) x0.Log.Disk.Sectors) x0.Log.Disk.Sectors.length, .lst false 2 (fl (enc_TWrite false) x0.Log.Disk.Cache) x0.Log.Disk.Cache.length, .int .i64 x0.Log.Segs, .lst false 4 (fl (enc_TSeg false) x0.Log.Used) x0.Log.Used.length, .int .i64 x0.Log.NextGen, .int .i64 x0.Log.NextSeq, .int .i64 x0.Log.Stamp, .int .i64 x0.Log.NextValid, .lst false 1 (fl (encI false) x0.Freed) x0.Freed.length], 0⟩]) rfl rfl ?_
    refine RW.cond_t rfl (RW.sreg (rl.run 1 rfl (rl.done (RW.ret ?_))))
    cases h7
    have h8 := elimL h2 (hE1 _ rfl)
    cases h8
    exact RRet.mk rfl .bool (by first | decide | simp)
 ·intro y2 hC
  have h2 := elimR h2 hC
  refine RW.sreg (rl.run 1 rfl (rl.done (RW.ret ?_)))
  cases h2
  exact RRet.mk rfl .bool (by first | decide | simp)
theorem law_spec_l12Kept {x0 : TStore} {r : List TItem} (hF : F_spec_l12Kept x0 = some r) : PCalls Tryz.prog 29 [.agg (enc_TStore false x0)] (.lst true 9 (fl (enc_TItem true) r) r.length) := by
 refine PCalls.of_r k_spec_l12Kept rfl ?_
 unfold F_spec_l12Kept at hF
 refine RW.sreg (rl.run 2 rfl (rl.done (RW.sreg (rl.run 2 rfl (rl.done (RW.seq (RW.sreg (rl.run 1 rfl (rl.done ?_)))))))))
 refine RW.gh (Gh.nil_t 3 9 rfl) ?_
 obtain ⟨y7, ey7, h2⟩ := bindS hF
 refine RW.cutq (σ := (List TItem)) (fun y2 => [(3, .sl 0 0 y2.length)]) (fun y2 => [some ⟨fl (enc_TItem true) y2, 9⟩]) (fun y => y7 = y) (fun _ _ _ _ g h => RW.gh g h) ?_ ?_
 ·refine RW.blk ?_
  refine RW.iter (σ := Int × (List TItem)) ey7 (fun s1 => [(1, .ptr 0 0), (3, .sl 1 0 s1.2.length), (4, .int .i64 s1.1)]) (fun s1 => [some ⟨[.lst false 1 (fl (encS false) x0.Log.Disk.Sectors) x0.Log.Disk.Sectors.length, .lst false 2 (fl (enc_TWrite false) x0.Log.Disk.Cache) x0.Log.Disk.Cache.length, .int .i64 x0.Log.Segs, .lst false 4 (fl (enc_TSeg false) x0.Log.Used) x0.Log.Used.length, .int .i64 x0.Log.NextGen, .int .i64 x0.Log.NextSeq, .int .i64 x0.Log.Stamp, .int .i64 x0.Log.NextValid, .lst false 1 (fl (encI false) x0.Freed) x0.Freed.length], 0⟩, some ⟨fl (enc_TItem true) s1.2, 9⟩]) (Gh.ren0 [0, 1] (.cells rfl rfl (.keep (ekS.rlst) (.keep (ek_TWrite.rlst) (.keep .int (.keep (ek_TSeg.rlst) (.keep .int (.keep .int (.keep .int (.keep .int (.keep (ekI.rlst) .nil))))))))) (.same rfl (ek_TItem.fref _ _) .nil)) rfl (.cons rfl (.ptr rfl) (.cons rfl (.slq rfl rfl) (.cons rfl (.dat .int) .nil)))) (fun s1 B o hS1 hB1 hE1 => ?_)
  unfold S_spec_l12Kept_1 at hS1
  refine RW.seq (RW.sreg (rl.run 5 rfl ?_))
  refine rl.gen rfl rfl fun b hb => ?_
  cases b
  ·have h3 := iteBF hS1 hb
   refine rl.done (RW.cond_f rfl (RW.exit (blkA_eq ?_)))
   cases h3
   exact ⟨_, (hE1 _ rfl).symm, (Gh.ren0 [1] (.same rfl (ek_TItem.fref _ _) .nil) rfl (.cons rfl (.slq rfl rfl) .nil))⟩
  ·have h4 := iteBT hS1 hb
   refine rl.done (RW.cond_t rfl (RW.skip (RW.seq (RW.blk (RW.sdrw (rdraw.op rfl rfl (rdraw.op rfl rfl (rdraw.op rfl rfl (rdraw.op rfl rfl (rdraw.op rfl rfl ?_))))))))))
   obtain ⟨v3, e3, h5⟩ := bindS h4
   refine rdraw.op rfl (x_ia_lst (enc := enc_TSeg) (o := false) rfl rfl rfl e3) ?_
   refine rdraw.op rfl rfl ?_
   refine rdraw.op rfl (x_ld_el (off' := 0) ek_TSeg rfl e3 rfl rfl rfl) ?_
   obtain ⟨v4, e4, h6⟩ := bindS h5
   refine rdraw.call rfl rfl rfl (CallW.val (r' := .bool v4) ok_spec_l12Freed (law_spec_l12Freed e4) (.cons (DFL.agg (.cons (.lst ekS) (.cons (.lst ek_TWrite) (.cons .int (.cons (.lst ek_TSeg) (.cons .int (.cons .int (.cons .int (.cons .int (.cons (.lst ekI) .nil)))))))))) (.cons .int .nil)) .refl ⟨rfl, ?_⟩)
   cases hb : v4
   ·have h7 := iteBF h6 hb
    refine rdraw.op rfl rfl (rdraw.done ?_)
    refine RW.keep [1, 3, 4, 23] (a' := [(1, .ptr 0 0), (3, .sl 1 0 s1.2.length), (4, .int .i64 s1.1), (23, .bool true)]) (H' := [some ⟨[.lst false 1 (fl (encS false) x0.Log.Disk.Sectors) x0.Log.Disk.Sectors.length, .lst false 2 (fl (enc_TWrite false) x0.Log.Disk.Cache) x0.Log.Disk.Cache.length, .int .i64 x0.Log.Segs, .lst false 4 (fl (enc_TSeg false) x0.Log.Used) x0.Log.Used.length, .int .i64 x0.Log.NextGen, .int .i64 x0.Log.NextSeq, .int .i64 x0.Log.Stamp, .int .i64 x0.Log.NextValid, .lst false 1 (fl (encI false) x0.Freed) x0.Freed.length], 0⟩, some ⟨fl (enc_TItem true) s1.2, 9⟩]) rfl rfl ?_
    refine RW.cond_t rfl (RW.reg (rl.run 5 rfl ?_))
    obtain ⟨v5, e5, h8⟩ := bindS h7
    refine rl.op (x_ia_lst (enc := enc_TSeg) (o := false) rfl rfl rfl e5) ?_
    refine rl.run 1 rfl ?_
    refine rl.op (x_ld_el (off' := 3) ek_TSeg rfl e5 rfl rfl rfl) ?_
    obtain ⟨v6, e6, h9⟩ := bindS h8
    refine rl.op (x_app rfl rfl (rapp_sl (l := s1.2) (m := v5.Items) (o := true) ek_TItem rfl rfl acont_lst rfl (fk_TItem.fst _ _) e6)) ?_
    refine rl.run 1 rfl (rl.done (RW.reg (rl.run 3 rfl (rl.done ?_))))
    cases h9
    exact hB1 _ rfl _ _ (Gh.ren0 [0, 2] (.cells rfl rfl (.keep (ekS.rlst) (.keep (ek_TWrite.rlst) (.keep .int (.keep (ek_TSeg.rlst) (.keep .int (.keep .int (.keep .int (.keep .int (.keep (ekI.rlst) .nil))))))))) (.same rfl (ek_TItem.fref _ _) .nil)) rfl (.cons rfl (.ptr rfl) (.cons rfl (.slq rfl rfl) (.cons rfl (.dat .int) .nil))))
   ·have h10 := iteBT h6 hb
    refine rdraw.op rfl rfl (rdraw.done ?_)
    refine RW.keep [1, 3, 4, 23] (a' := [(1, .ptr 0 0), (3, .sl 1 0 s1.2.length), (4, .int .i64 s1.1), (23, .bool false)]) (H' := [some ⟨[.lst false 1 (fl (encS false) x0.Log.Disk.Sectors) x0.Log.Disk.Sectors.length, .lst false 2 (fl (enc_TWrite false) x0.Log.Disk.Cache) x0.Log.Disk.Cache.length, .int .i64 x0.Log.Segs, .lst false 4 (fl (enc_TSeg false) x0.Log.Used) x0.Log.Used.length, .int .i64 x0.Log.NextGen, .int .i64 x0.Log.NextSeq, .int .i64 x0.Log.Stamp, .int .i64 x0.Log.NextValid, .lst false 1 (fl (encI false) x0.Freed) x0.Freed.length], 0⟩, some ⟨fl (enc_TItem true) s1.2, 9⟩]) rfl rfl ?_
    refine RW.cond_f rfl (RW.skip (RW.reg (rl.run 3 rfl (rl.done ?_))))
    cases h10
    exact hB1 _ rfl _ _ (Gh.ren0 [0, 1] (.cells rfl rfl (.keep (ekS.rlst) (.keep (ek_TWrite.rlst) (.keep .int (.keep (ek_TSeg.rlst) (.keep .int (.keep .int (.keep .int (.keep .int (.keep (ekI.rlst) .nil))))))))) (.same rfl (ek_TItem.fref _ _) .nil)) rfl (.cons rfl (.ptr rfl) (.cons rfl (.slq rfl rfl) (.cons rfl (.dat .int) .nil))))
 ·intro y2 hC
  subst hC
  refine RW.sreg (rl.run 2 rfl (rl.done (RW.ret ?_)))
  cases h2
  exact RRet.mk rfl (OutR.ownq ek_TItem rfl rfl) (by first | decide | simp)
theorem law_spec_l01Var {x0 : Int} {r : List UInt8} (hF : F_spec_l01Var x0 = some r) : PCalls Tryz.prog 70 [.int .i64 x0] (.str r) := by
 refine PCalls.of_r k_spec_l01Var rfl ?_
 unfold F_spec_l01Var at hF
 refine RW.sreg (rl.run 1 rfl (rl.done (RW.sreg (rl.run 2 rfl (rl.done (RW.seq ?_))))))
 refine RW.gh (Gh.nil_t 3 1 rfl) ?_
 obtain ⟨y4, ey4, h2⟩ := bindS hF
 refine RW.cutq (σ := Int × (List Int)) (fun y2 => [(0, .int .i64 y2.1), (3, .sl 0 0 y2.2.length)]) (fun y2 => [some ⟨fl (encB true) y2.2, 1⟩]) (fun y => y4 = y) (fun _ _ _ _ g h => RW.gh g h) ?_ ?_
 ·refine RW.blk ?_
  refine RW.iter (σ := Int × (List Int)) ey4 (fun s1 => [(0, .int .i64 s1.1), (3, .sl 0 0 s1.2.length)]) (fun s1 => [some ⟨fl (encB true) s1.2, 1⟩]) (Gh.ren0 [0] (.same rfl (ekB.fref _ _) .nil) rfl (.cons rfl (.dat .int) (.cons rfl (.slq rfl rfl) .nil))) (fun s1 B o hS1 hB1 hE1 => ?_)
  unfold S_spec_l01Var_1 at hS1
  refine RW.seq (RW.sreg (rl.run 1 rfl ?_))
  refine rl.gen rfl rfl fun b hb => ?_
  cases b
  ·have h3 := iteBF hS1 hb
   refine rl.done (RW.cond_f rfl (RW.exit (blkA_eq ?_)))
   cases h3
   exact ⟨_, (hE1 _ rfl).symm, (Gh.ren0 [0] (.same rfl (ekB.fref _ _) .nil) rfl (.cons rfl (.dat .int) (.cons rfl (.slq rfl rfl) .nil)))⟩
  ·have h4 := iteBT hS1 hb
   refine rl.done (RW.cond_t rfl (RW.skip (RW.blk (RW.sreg (rl.run 6 rfl ?_)))))
   obtain ⟨v3, e3, h5⟩ := bindS h4
   refine rl.op (x_app rfl rfl (rapp_sl (l := s1.2) (m := [IntKind.u8.wrap (w64 ((Int.tmod s1.1 128) + 128))]) (o := true) ekB rfl rfl (acont_slq (m := [IntKind.u8.wrap (w64 ((Int.tmod s1.1 128) + 128))]) (o := true) fkB rfl rfl) rfl (fkB.fst _ _) e3)) ?_
   refine rl.run 1 rfl (rl.done (RW.reg (rl.run 3 rfl (rl.done ?_))))
   cases h5
   exact hB1 _ rfl _ _ (Gh.ren0 [2] (.same rfl (ekB.fref _ _) .nil) rfl (.cons rfl (.dat .int) (.cons rfl (.slq rfl rfl) .nil)))
 ·intro y2 hC
  subst hC
  refine RW.sreg (rl.run 4 rfl ?_)
  obtain ⟨v5, e5, h6⟩ := bindS h2
  refine rl.op (x_app rfl rfl (rapp_sl (l := y4.2) (m := [IntKind.u8.wrap y4.1]) (o := true) ekB rfl rfl (acont_slq (m := [IntKind.u8.wrap y4.1]) (o := true) fkB rfl rfl) rfl (fkB.fst _ _) e5)) ?_
  refine rl.op (x_cvb_sl (o := true) (l := v5) rfl rfl) ?_
  refine rl.run 1 rfl (rl.done (RW.ret ?_))
  cases h6
  exact RRet.mk rfl .str (by first | decide | simp)
theorem law_spec_l06Short {x0 : List UInt8} {r : List UInt8} (hF : F_spec_l06Short x0 = some r) : PCalls Tryz.prog 71 [.str x0] (.str r) := by
 refine PCalls.of_r k_spec_l06Short rfl ?_
 unfold F_spec_l06Short at hF
 refine RW.sreg (rl.run 1 rfl (rl.done (RW.sreg (rl.run 2 rfl ?_))))
 obtain ⟨v1, e1, h1⟩ := bindS hF
 refine rl.call rfl rfl rfl (CallW.val (r' := .str v1) ok_spec_l01Var (law_spec_l01Var e1) (.cons .int .nil) .refl ?_)
 refine rl.run 1 rfl ?_
 obtain ⟨v2, e2, h2⟩ := bindS h1
 refine rl.op (x_cat rfl rfl e2) ?_
 refine rl.run 1 rfl (rl.done (RW.ret ?_))
 cases h2
 exact RRet.mk rfl .str (by first | decide | simp)
theorem law_spec_RecText {x0 : TRec} {r : (List UInt8) × Bool} (hF : F_spec_RecText x0 = some r) : PCalls Tryz.prog 48 [.agg (enc_TRec false x0)] (.tup [.str r.1, .bool r.2]) := by
 refine PCalls.of_r k_spec_RecText rfl ?_
 unfold F_spec_RecText at hF
 refine RW.sreg (rl.run 3 rfl (rl.done (RW.seq (RW.sreg (rl.run 1 rfl ?_)))))
 obtain ⟨v1, e1, h1⟩ := bindS hF
 refine rl.call rfl rfl rfl (CallW.val (r' := .bool v1) ok_spec_RecOk (law_spec_RecOk e1) (.cons (DFL.agg (.cons .int (.cons .int (.cons .int (.cons .int (.cons .int (.cons .str (.cons .str (.cons .str .nil))))))))) .nil) .refl ?_)
 cases hb : v1
 ·have h2 := iteBF h1 hb
  refine rl.run 1 rfl (rl.done (RW.cond_t rfl (RW.sreg (rl.run 2 rfl (rl.done (RW.ret ?_))))))
  cases h2
  exact RRet.mk rfl (OutT.tup (.cons .str (.cons .bool .nil))) (by first | decide | simp)
 ·have h3 := iteBT h1 hb
  refine rl.run 1 rfl (rl.done (RW.cond_f rfl (RW.skip (RW.sdrw (rdraw.op rfl rfl (rdraw.op rfl rfl (rdraw.op rfl rfl ?_)))))))
  refine rdraw.chn rfl rfl ?_
  refine rdraw.op rfl (x_cvb_sl (o := true) (l := [IntKind.u8.wrap x0.Kind]) rfl rfl) ?_
  refine rdraw.opA rfl rfl (.here (.rx rfl) .nil) ?_
  refine rdraw.opA rfl rfl (.here (.rx rfl) .nil) ?_
  obtain ⟨v2, e2, h4⟩ := bindS h3
  refine rdraw.callA rfl rfl rfl (CallW.val (r' := .str v2) ok_spec_l01Var (law_spec_l01Var e2) (.cons .int .nil) .refl ⟨rfl, (.here (.cl rfl rfl (CallW.val (r' := .str v2) ok_spec_l01Var (law_spec_l01Var e2) (.cons .int .nil) .refl ⟨rfl, rfl⟩)) .nil), ?_⟩)
  obtain ⟨v3, e3, h5⟩ := bindS h4
  refine rdraw.op rfl (x_cat rfl rfl e3) ?_
  refine rdraw.opA rfl rfl (.here (.rx rfl) .nil) ?_
  refine rdraw.opA rfl rfl (.here (.rx rfl) .nil) ?_
  obtain ⟨v4, e4, h6⟩ := bindS h5
  refine rdraw.callA rfl rfl rfl (CallW.val (r' := .str v4) ok_spec_l01Var (law_spec_l01Var e4) (.cons .int .nil) .refl ⟨rfl, (.here (.cl rfl rfl (CallW.val (r' := .str v4) ok_spec_l01Var (law_spec_l01Var e4) (.cons .int .nil) .refl ⟨rfl, rfl⟩)) .nil), ?_⟩)
  obtain ⟨v5, e5, h7⟩ := bindS h6
  refine rdraw.op rfl (x_cat rfl rfl e5) ?_
  refine rdraw.opA rfl rfl (.here (.rx rfl) .nil) ?_
  refine rdraw.opA rfl rfl (.here (.rx rfl) .nil) ?_
  obtain ⟨v6, e6, h8⟩ := bindS h7
  refine rdraw.callA rfl rfl rfl (CallW.val (r' := .str v6) ok_spec_l01Var (law_spec_l01Var e6) (.cons .int .nil) .refl ⟨rfl, (.here (.cl rfl rfl (CallW.val (r' := .str v6) ok_spec_l01Var (law_spec_l01Var e6) (.cons .int .nil) .refl ⟨rfl, rfl⟩)) .nil), ?_⟩)
  obtain ⟨v7, e7, h9⟩ := bindS h8
  refine rdraw.op rfl (x_cat rfl rfl e7) ?_
  refine rdraw.opA rfl rfl (.here (.rx rfl) .nil) ?_
  refine rdraw.opA rfl rfl (.here (.rx rfl) .nil) ?_
  obtain ⟨v8, e8, h10⟩ := bindS h9
  refine rdraw.callA rfl rfl rfl (CallW.val (r' := .str v8) ok_spec_l01Var (law_spec_l01Var e8) (.cons .int .nil) .refl ⟨rfl, (.here (.cl rfl rfl (CallW.val (r' := .str v8) ok_spec_l01Var (law_spec_l01Var e8) (.cons .int .nil) .refl ⟨rfl, rfl⟩)) .nil), ?_⟩)
  obtain ⟨v9, e9, h11⟩ := bindS h10
  refine rdraw.op rfl (x_cat rfl rfl e9) ?_
  refine rdraw.opA rfl rfl (.here (.rx rfl) .nil) ?_
  refine rdraw.opA rfl rfl (.here (.rx rfl) .nil) ?_
  obtain ⟨v10, e10, h12⟩ := bindS h11
  refine rdraw.callA rfl rfl rfl (CallW.val (r' := .str v10) ok_spec_l06Short (law_spec_l06Short e10) (.cons .str .nil) .refl ⟨rfl, (.here (.cl rfl rfl (CallW.val (r' := .str v10) ok_spec_l06Short (law_spec_l06Short e10) (.cons .str .nil) .refl ⟨rfl, rfl⟩)) .nil), ?_⟩)
  obtain ⟨v11, e11, h13⟩ := bindS h12
  refine rdraw.op rfl (x_cat rfl rfl e11) ?_
  refine rdraw.opA rfl rfl (.here (.rx rfl) .nil) ?_
  refine rdraw.opA rfl rfl (.here (.rx rfl) .nil) ?_
  obtain ⟨v12, e12, h14⟩ := bindS h13
  refine rdraw.callA rfl rfl rfl (CallW.val (r' := .str v12) ok_spec_l06Short (law_spec_l06Short e12) (.cons .str .nil) .refl ⟨rfl, (.here (.cl rfl rfl (CallW.val (r' := .str v12) ok_spec_l06Short (law_spec_l06Short e12) (.cons .str .nil) .refl ⟨rfl, rfl⟩)) .nil), ?_⟩)
  obtain ⟨v13, e13, h15⟩ := bindS h14
  refine rdraw.op rfl (x_cat rfl rfl e13) ?_
  refine rdraw.opA rfl rfl (.here (.rx rfl) .nil) ?_
  refine rdraw.opA rfl rfl (.here (.rx rfl) .nil) ?_
  obtain ⟨v14, e14, h16⟩ := bindS h15
  refine rdraw.callA rfl rfl rfl (CallW.val (r' := .str v14) ok_spec_l06Short (law_spec_l06Short e14) (.cons .str .nil) .refl ⟨rfl, (.here (.cl rfl rfl (CallW.val (r' := .str v14) ok_spec_l06Short (law_spec_l06Short e14) (.cons .str .nil) .refl ⟨rfl, rfl⟩)) .nil), ?_⟩)
  obtain ⟨v15, e15, h17⟩ := bindS h16
  refine rdraw.op rfl (x_cat rfl rfl e15) ?_
  refine rdraw.op rfl rfl (rdraw.op rfl rfl (rdraw.done ?_))
  refine RW.keep [2, 3] (a' := [(2, .str v15), (3, .bool true)]) (H' := [some ⟨[.int .i64 x0.Kind, .int .i64 x0.Valid, .int .i64 x0.Uid, .int .i64 x0.Next, .int .i64 x0.Flags, .str x0.User, .str x0.Name, .str x0.Text], 0⟩, some ⟨fl (encB true) [IntKind.u8.wrap x0.Kind], 1⟩]) rfl rfl ?_
  refine RW.ret ?_
  cases h17
  exact RRet.mk rfl (OutT.tup (.cons .str (.cons .bool .nil))) (by first | decide | simp)
theorem law_spec_FrameOk {x0 : TFrame} {r : Bool} (hF : F_spec_FrameOk x0 = some r) : PCalls Tryz.prog 49 [.agg (enc_TFrame false x0)] (.bool r) := by
 refine PCalls.of_r k_spec_FrameOk rfl ?_
 unfold F_spec_FrameOk at hF
 refine RW.sreg (rl.run 2 rfl (rl.done (RW.seq ?_)))
 obtain ⟨y1, ey1, h1⟩ := bindS hF
 refine RW.cutq (σ := Bool) (fun y1 => [(2, .bool y1)]) (fun y1 => []) (fun y => y1 = y) (fun _ _ _ _ g h => RW.gh g h) ?_ ?_
 ·refine RW.reg ?_
  refine rl.run 2 rfl ?_
  obtain ⟨v2, e2, h2⟩ := bindS ey1
  refine rl.call rfl rfl rfl (CallW.val (r' := .bool v2) ok_spec_l01In (law_spec_l01In e2) (.cons .int (.cons .int (.cons .int .nil))) .refl ?_)
  cases hb : v2
  ·have h3 := iteBF h2 hb
   refine rl.run 12 rfl (rl.done ?_)
   cases h3
   exact ⟨_, rfl, (Gh.ren0 [] .nil rfl (.cons rfl (.dat .bool) .nil))⟩
  ·have h4 := iteBT h2 hb
   refine rl.run 3 rfl ?_
   obtain ⟨v3, e3, h5⟩ := bindS h4
   refine rl.call rfl rfl rfl (CallW.val (r' := .bool v3) ok_spec_l01In (law_spec_l01In e3) (.cons .int (.cons .int (.cons .int .nil))) .refl ?_)
   cases hb : v3
   ·have h6 := iteBF h5 hb
    refine rl.run 8 rfl (rl.done ?_)
    cases h6
    exact ⟨_, rfl, (Gh.ren0 [] .nil rfl (.cons rfl (.dat .bool) .nil))⟩
   ·have h7 := iteBT h5 hb
    refine rl.run 5 rfl ?_
    obtain ⟨v4, e4, h8⟩ := bindS h7
    refine rl.call rfl rfl rfl (CallW.val (r' := .bool v4) ok_spec_l01In (law_spec_l01In e4) (.cons .int (.cons .int (.cons .int .nil))) .refl ?_)
    refine rl.run 2 rfl (rl.done ?_)
    cases h8
    exact ⟨_, rfl, (Gh.ren0 [] .nil rfl (.cons rfl (.dat .bool) .nil))⟩
 ·intro y hC
  subst hC
  refine RW.ret ?_
  cases h1
  exact RRet.mk rfl .bool (by first | decide | simp)
theorem law_spec_ItemFrame {x0 : TItem} {x1 : Int} {r : TFrame × Bool} (hF : F_spec_ItemFrame x0 x1 = some r) : PCalls Tryz.prog 31 [.agg (enc_TItem false x0), .int .i64 x1] (.tup [.agg (enc_TFrame true r.1), .bool r.2]) := by
 refine PCalls.of_r k_spec_ItemFrame rfl ?_
 unfold F_spec_ItemFrame at hF
 refine RW.sreg (rl.run 3 rfl (rl.done (RW.sreg (rl.run 2 rfl ?_))))
 obtain ⟨v1, e1, h1⟩ := bindS hF
 refine rl.call rfl rfl rfl (CallW.val (r' := .tup [.str v1.1, .bool v1.2]) ok_spec_RecText (law_spec_RecText e1) (.cons (DFL.agg (.cons .int (.cons .int (.cons .int (.cons .int (.cons .int (.cons .str (.cons .str (.cons .str .nil))))))))) .nil) (FlL.tup (.cons .refl (.cons .refl .nil))) ?_)
 refine rl.run 5 rfl (rl.done (RW.sreg (rl.run 7 rfl (rl.done ?_))))
 refine RW.keep [4, 7, 8] (a' := [(4, .ptr 1 0), (7, .bool v1.2), (8, .ptr 2 0)]) (H' := [some ⟨[.int .i64 x0.Seq, .int .i64 x0.Rec.Kind, .int .i64 x0.Rec.Valid, .int .i64 x0.Rec.Uid, .int .i64 x0.Rec.Next, .int .i64 x0.Rec.Flags, .str x0.Rec.User, .str x0.Rec.Name, .str x0.Rec.Text], 0⟩, some ⟨[.int .i64 0, .int .i64 0, .str []], 0⟩, some ⟨[.int .i64 x1, .int .i64 x0.Seq, .str v1.1], 0⟩]) rfl rfl ?_
 refine RW.seq (RW.seq ?_)
 obtain ⟨y2, ey2, h2⟩ := bindS h1
 refine RW.cutq (σ := Bool) (fun y2 => [(4, .ptr 0 0), (8, .ptr 1 0), (26, .bool y2)]) (fun y2 => [some ⟨[.int .i64 0, .int .i64 0, .str []], 0⟩, some ⟨[.int .i64 x1, .int .i64 x0.Seq, .str v1.1], 0⟩]) (fun y => y2 = y) (fun _ _ _ _ g h => RW.gh g h) ?_ ?_
 ·refine RW.reg ?_
  refine rl.run 3 rfl ?_
  cases hb : (!v1.2)
  ·have h3 := iteBF ey2 hb
   refine rl.run 1 rfl ?_
   obtain ⟨v3, e3, h4⟩ := bindS h3
   refine rl.call rfl rfl rfl (CallW.val (r' := .bool v3) ok_spec_FrameOk (law_spec_FrameOk e3) (.cons (DFL.agg (.cons .int (.cons .int (.cons .str .nil)))) .nil) .refl ?_)
   cases hb : v3
   ·have h5 := iteBF h4 hb
    refine rl.run 2 rfl (rl.done ?_)
    cases h5
    exact ⟨_, rfl, (Gh.ren0 [1, 2] (.cells rfl rfl (.keep .int (.keep .int (.keep .str .nil))) (.cells rfl rfl (.keep .int (.keep .int (.keep .str .nil))) .nil)) rfl (.cons rfl (.ptr rfl) (.cons rfl (.ptr rfl) (.cons rfl (.dat .bool) .nil))))⟩
   ·have h6 := iteBT h4 hb
    refine rl.run 2 rfl (rl.done ?_)
    cases h6
    exact ⟨_, rfl, (Gh.ren0 [1, 2] (.cells rfl rfl (.keep .int (.keep .int (.keep .str .nil))) (.cells rfl rfl (.keep .int (.keep .int (.keep .str .nil))) .nil)) rfl (.cons rfl (.ptr rfl) (.cons rfl (.ptr rfl) (.cons rfl (.dat .bool) .nil))))⟩
  ·have h7 := iteBT ey2 hb
   refine rl.run 4 rfl (rl.done ?_)
   cases h7
   exact ⟨_, rfl, (Gh.ren0 [1, 2] (.cells rfl rfl (.keep .int (.keep .int (.keep .str .nil))) (.cells rfl rfl (.keep .int (.keep .int (.keep .str .nil))) .nil)) rfl (.cons rfl (.ptr rfl) (.cons rfl (.ptr rfl) (.cons rfl (.dat .bool) .nil))))⟩
 ·intro y hC
  subst hC
  cases hb : y2
  ·have h8 := iteBF h2 hb
   refine RW.cond_f rfl (RW.skip (RW.sreg (rl.run 3 rfl (rl.done (RW.ret ?_)))))
   cases h8
   exact RRet.mk rfl (OutT.tup (.cons (OutL.agg (.cons .int rfl (.cons .int rfl (.cons .str rfl .nil)))) (.cons .bool .nil))) (by first | decide | simp)
  ·have h9 := iteBT h2 hb
   refine RW.cond_t rfl (RW.sreg (rl.run 3 rfl (rl.done (RW.ret ?_))))
   cases h9
   exact RRet.mk rfl (OutT.tup (.cons (OutL.agg (.cons .int rfl (.cons .int rfl (.cons .str rfl .nil)))) (.cons .bool .nil))) (by first | decide | simp)
theorem law_spec_l02Four {x0 : Int} {r : List UInt8} (hF : F_spec_l02Four x0 = some r) : PCalls Tryz.prog 85 [.int .u32 x0] (.str r) := by
 refine PCalls.of_r k_spec_l02Four rfl ?_
 unfold F_spec_l02Four at hF
 refine RW.sreg (rl.run 1 rfl (rl.done (RW.sreg (rl.run 12 rfl ?_))))
 refine rl.op (x_cvb_sl (o := true) (l := [IntKind.u8.wrap (shrv .u32 x0 24), IntKind.u8.wrap (shrv .u32 x0 16), IntKind.u8.wrap (shrv .u32 x0 8), IntKind.u8.wrap x0]) rfl rfl) ?_
 refine rl.run 1 rfl (rl.done ?_)
 refine RW.keep [2] (a' := [(2, .str ([IntKind.u8.wrap (shrv .u32 x0 24), IntKind.u8.wrap (shrv .u32 x0 16), IntKind.u8.wrap (shrv .u32 x0 8), IntKind.u8.wrap x0].map ofI))]) (H' := [some ⟨fl (encB true) [IntKind.u8.wrap (shrv .u32 x0 24), IntKind.u8.wrap (shrv .u32 x0 16), IntKind.u8.wrap (shrv .u32 x0 8), IntKind.u8.wrap x0], 1⟩]) rfl rfl ?_
 refine RW.ret ?_
 cases hF
 exact RRet.mk rfl .str (by first | decide | simp)
theorem law_spec_SumMore {x0 : Int} {x1 : List UInt8} {r : Int} (hF : F_spec_SumMore x0 x1 = some r) : PCalls Tryz.prog 103 [.int .u32 x0, .str x1] (.int .u32 r) := by
 refine PCalls.of_r k_spec_SumMore rfl ?_
 unfold F_spec_SumMore at hF
 refine RW.sreg (rl.run 1 rfl (rl.done (RW.seq (RW.sreg (rl.run 1 rfl (rl.done ?_))))))
 obtain ⟨y7, ey7, h2⟩ := bindS hF
 refine RW.cutq (σ := Int) (fun y2 => [(0, .int .u32 y2)]) (fun y2 => []) (fun y => y7 = y) (fun _ _ _ _ g h => RW.gh g h) ?_ ?_
 ·refine RW.blk ?_
  refine RW.iter (σ := Int × Int) ey7 (fun s1 => [(0, .int .u32 s1.1), (1, .str x1), (5, .int .i64 s1.2)]) (fun s1 => []) (Gh.ren0 [] .nil rfl (.cons rfl (.dat .int) (.cons rfl (.dat .str) (.cons rfl (.dat .int) .nil)))) (fun s1 B o hS1 hB1 hE1 => ?_)
  unfold S_spec_SumMore_1 at hS1
  refine RW.seq (RW.sreg (rl.run 3 rfl ?_))
  refine rl.gen rfl rfl fun b hb => ?_
  cases b
  ·have h3 := iteBF hS1 hb
   refine rl.done (RW.cond_f rfl (RW.exit (blkA_eq ?_)))
   cases h3
   exact ⟨_, (hE1 _ rfl).symm, (Gh.ren0 [] .nil rfl (.cons rfl (.dat .int) .nil))⟩
  ·have h4 := iteBT hS1 hb
   refine rl.done (RW.cond_t rfl (RW.skip (RW.seq (RW.blk (RW.sreg (rl.run 3 rfl ?_))))))
   obtain ⟨v3, e3, h5⟩ := bindS h4
   refine rl.op (x_idx rfl rfl e3) ?_
   refine rl.run 3 rfl (rl.done (RW.sreg (rl.run 1 rfl (rl.done ?_))))
   obtain ⟨y6, ey6, h7⟩ := bindS h5
   refine RW.cutq (σ := Int) (fun y5 => [(0, .int .u32 y5), (1, .str x1), (5, .int .i64 s1.2)]) (fun y5 => []) (fun y => y6 = y) (fun _ _ _ _ g h => RW.gh g h) ?_ ?_
   ·refine RW.blk ?_
    refine RW.iter (σ := Int × Int) ey6 (fun s4 => [(0, .int .u32 s4.1), (1, .str x1), (5, .int .i64 s1.2), (6, .int .i64 s4.2)]) (fun s4 => []) (Gh.ren0 [] .nil rfl (.cons rfl (.dat .int) (.cons rfl (.dat .str) (.cons rfl (.dat .int) (.cons rfl (.dat .int) .nil))))) (fun s4 B o hS6 hB6 hE6 => ?_)
    unfold S_spec_SumMore_2 at hS6
    refine RW.seq (RW.sreg (rl.run 1 rfl ?_))
    refine rl.gen rfl rfl fun b hb => ?_
    cases b
    ·have h8 := iteBF hS6 hb
     refine rl.done (RW.cond_f rfl (RW.exit (blkA_eq ?_)))
     cases h8
     exact ⟨_, (hE6 _ rfl).symm, (Gh.ren0 [] .nil rfl (.cons rfl (.dat .int) (.cons rfl (.dat .str) (.cons rfl (.dat .int) .nil))))⟩
    ·have h9 := iteBT hS6 hb
     refine rl.done (RW.cond_t rfl (RW.skip (RW.seq (RW.blk (RW.sreg (rl.run 2 rfl ?_))))))
     refine rl.gen rfl rfl fun b hb => ?_
     cases b
     ·have h10 := iteBF h9 hb
      refine rl.run 1 rfl (rl.done (RW.sreg (rl.run 3 rfl (rl.done (RW.sreg (rl.run 1 rfl (rl.done (RW.cond_f rfl (RW.skip (RW.reg (rl.run 3 rfl ?_)))))))))))
      refine rl.done ?_
      cases h10
      exact hB6 _ rfl _ _ (Gh.ren0 [] .nil rfl (.cons rfl (.dat .int) (.cons rfl (.dat .str) (.cons rfl (.dat .int) (.cons rfl (.dat .int) .nil)))))
     ·have h11 := iteBT h9 hb
      refine rl.run 1 rfl (rl.done (RW.sreg (rl.run 3 rfl (rl.done (RW.sreg (rl.run 1 rfl (rl.done (RW.cond_t rfl (RW.reg (rl.run 3 rfl (rl.done ?_)))))))))))
      refine RW.reg (rl.run 3 rfl (rl.done ?_))
      cases h11
      exact hB6 _ rfl _ _ (Gh.ren0 [] .nil rfl (.cons rfl (.dat .int) (.cons rfl (.dat .str) (.cons rfl (.dat .int) (.cons rfl (.dat .int) .nil)))))
   ·intro y5 hC
    subst hC
    refine RW.reg (rl.run 3 rfl (rl.done ?_))
    cases h7
    exact hB1 _ rfl _ _ (Gh.ren0 [] .nil rfl (.cons rfl (.dat .int) (.cons rfl (.dat .str) (.cons rfl (.dat .int) .nil))))
 ·intro y2 hC
  subst hC
  refine RW.sreg (rl.run 2 rfl (rl.done (RW.ret ?_)))
  cases h2
  exact RRet.mk rfl .int (by first | decide | simp)
theorem law_spec_SumOf {x0 : List UInt8} {r : Int} (hF : F_spec_SumOf x0 = some r) : PCalls Tryz.prog 86 [.str x0] (.int .u32 r) := by
 refine PCalls.of_r k_spec_SumOf rfl ?_
 unfold F_spec_SumOf at hF
 refine RW.sreg (rl.run 1 rfl (rl.done (RW.sreg (rl.run 1 rfl ?_))))
 obtain ⟨v1, e1, h1⟩ := bindS hF
 refine rl.call rfl rfl rfl (CallW.val (r' := .int .u32 v1) ok_spec_SumMore (law_spec_SumMore e1) (.cons .int (.cons .str .nil)) .refl ?_)
 refine rl.run 1 rfl (rl.done (RW.ret ?_))
 cases h1
 exact RRet.mk rfl .int (by first | decide | simp)
theorem law_spec_Sealed {x0 : List UInt8} {r : (List UInt8) × Bool} (hF : F_spec_Sealed x0 = some r) : PCalls Tryz.prog 72 [.str x0] (.tup [.str r.1, .bool r.2]) := by
 refine PCalls.of_r k_spec_Sealed rfl ?_
 unfold F_spec_Sealed at hF
 refine RW.sreg (rl.run 2 rfl (rl.done (RW.seq (RW.sreg (rl.run 2 rfl ?_)))))
 refine rl.gen rfl rfl fun b hb => ?_
 cases b
 ·have h1 := iteBF hF hb
  refine rl.done (RW.cond_f rfl (RW.skip (RW.sreg (rl.run 2 rfl ?_))))
  obtain ⟨v1, e1, h2⟩ := bindS h1
  refine rl.call rfl rfl rfl (CallW.val (r' := .int .u32 v1) ok_spec_SumOf (law_spec_SumOf e1) (.cons .str .nil) .refl ?_)
  obtain ⟨v2, e2, h3⟩ := bindS h2
  refine rl.call rfl rfl rfl (CallW.val (r' := .str v2) ok_spec_l02Four (law_spec_l02Four e2) (.cons .int .nil) .refl ?_)
  obtain ⟨v3, e3, h4⟩ := bindS h3
  refine rl.op (x_cat rfl rfl e3) ?_
  refine rl.run 2 rfl (rl.done (RW.ret ?_))
  cases h4
  exact RRet.mk rfl (OutT.tup (.cons .str (.cons .bool .nil))) (by first | decide | simp)
 ·have h5 := iteBT hF hb
  refine rl.done (RW.cond_t rfl (RW.sreg (rl.run 2 rfl (rl.done (RW.ret ?_)))))
  cases h5
  exact RRet.mk rfl (OutT.tup (.cons .str (.cons .bool .nil))) (by first | decide | simp)
theorem law_spec_FrameText {x0 : TFrame} {r : (List UInt8) × Bool} (hF : F_spec_FrameText x0 = some r) : PCalls Tryz.prog 50 [.agg (enc_TFrame false x0)] (.tup [.str r.1, .bool r.2]) := by
 refine PCalls.of_r k_spec_FrameText rfl ?_
 unfold F_spec_FrameText at hF
 refine RW.sreg (rl.run 3 rfl (rl.done (RW.seq (RW.sreg (rl.run 1 rfl ?_)))))
 obtain ⟨v1, e1, h1⟩ := bindS hF
 refine rl.call rfl rfl rfl (CallW.val (r' := .bool v1) ok_spec_FrameOk (law_spec_FrameOk e1) (.cons (DFL.agg (.cons .int (.cons .int (.cons .str .nil)))) .nil) .refl ?_)
 cases hb : v1
 ·have h2 := iteBF h1 hb
  refine rl.run 1 rfl (rl.done (RW.cond_t rfl (RW.sreg (rl.run 2 rfl (rl.done (RW.ret ?_))))))
  cases h2
  exact RRet.mk rfl (OutT.tup (.cons .str (.cons .bool .nil))) (by first | decide | simp)
 ·have h3 := iteBT h1 hb
  refine rl.run 1 rfl (rl.done (RW.cond_f rfl (RW.skip (RW.sdrw (rdraw.op rfl rfl (rdraw.op rfl rfl ?_))))))
  obtain ⟨v2, e2, h4⟩ := bindS h3
  refine rdraw.call rfl rfl rfl (CallW.val (r' := .str v2) ok_spec_l01Var (law_spec_l01Var e2) (.cons .int .nil) .refl ⟨rfl, ?_⟩)
  refine rdraw.op rfl rfl (rdraw.op rfl rfl ?_)
  obtain ⟨v3, e3, h5⟩ := bindS h4
  refine rdraw.call rfl rfl rfl (CallW.val (r' := .str v3) ok_spec_l01Var (law_spec_l01Var e3) (.cons .int .nil) .refl ⟨rfl, ?_⟩)
  obtain ⟨v4, e4, h6⟩ := bindS h5
  refine rdraw.op rfl (x_cat rfl rfl e4) ?_
  refine rdraw.op rfl rfl (rdraw.op rfl rfl (rdraw.op rfl rfl ?_))
  obtain ⟨v5, e5, h7⟩ := bindS h6
  refine rdraw.call rfl rfl rfl (CallW.val (r' := .str v5) ok_spec_l01Var (law_spec_l01Var e5) (.cons .int .nil) .refl ⟨rfl, ?_⟩)
  obtain ⟨v6, e6, h8⟩ := bindS h7
  refine rdraw.op rfl (x_cat rfl rfl e6) ?_
  refine rdraw.op rfl rfl (rdraw.op rfl rfl ?_)
  obtain ⟨v7, e7, h9⟩ := bindS h8
  refine rdraw.op rfl (x_cat rfl rfl e7) ?_
  obtain ⟨v8, e8, h10⟩ := bindS h9
  refine rdraw.call rfl rfl rfl (CallW.val (r' := .tup [.str v8.1, .bool v8.2]) ok_spec_Sealed (law_spec_Sealed e8) (.cons .str .nil) (FlL.tup (.cons .refl (.cons .refl .nil))) ⟨rfl, ?_⟩)
  refine rdraw.op rfl rfl (rdraw.op rfl rfl (rdraw.op rfl rfl (rdraw.op rfl rfl (rdraw.done ?_))))
  refine RW.keep [2, 3] (a' := [(2, .str v8.1), (3, .bool v8.2)]) (H' := [some ⟨[.int .i64 x0.Gen, .int .i64 x0.Seq, .str x0.Body], 0⟩]) rfl rfl ?_
  refine RW.ret ?_
  cases h10
  exact RRet.mk rfl (OutT.tup (.cons .str (.cons .bool .nil))) (by first | decide | simp)
theorem law_spec_FrameSize {x0 : TFrame} {r : Int} (hF : F_spec_FrameSize x0 = some r) : PCalls Tryz.prog 32 [.agg (enc_TFrame false x0)] (.int .i64 r) := by
 refine PCalls.of_r k_spec_FrameSize rfl ?_
 unfold F_spec_FrameSize at hF
 refine RW.sreg (rl.run 2 rfl (rl.done (RW.sreg (rl.run 1 rfl ?_))))
 obtain ⟨v1, e1, h1⟩ := bindS hF
 refine rl.call rfl rfl rfl (CallW.val (r' := .tup [.str v1.1, .bool v1.2]) ok_spec_FrameText (law_spec_FrameText e1) (.cons (DFL.agg (.cons .int (.cons .int (.cons .str .nil)))) .nil) (FlL.tup (.cons .refl (.cons .refl .nil))) ?_)
 refine rl.run 5 rfl (rl.done (RW.sreg (rl.run 3 rfl (rl.done ?_))))
 refine RW.keep [2] (a' := [(2, .int .i64 (v1.1.length : Int))]) (H' := [some ⟨[.int .i64 x0.Gen, .int .i64 x0.Seq, .str x0.Body], 0⟩]) rfl rfl ?_
 refine RW.ret ?_
 cases h1
 exact RRet.mk rfl .int (by first | decide | simp)
end Go.Proofs.YtgdcbjoaoagbpaaGreat.V
