/- What a call comes to. -/
import Derived.Test.YtcehlicmghnghaaGreatXT
import Derived.Test.YtcehlicmghnghaaGreatXU
namespace Go.Proofs.YtcehlicmghnghaaGreat.V
open Go Go.Proofs Go.RowKit
set_option maxRecDepth 100000
theorem law_laws_eqIntS {x0 : List Int} {x1 : List Int} {r : Bool} (hF : F_laws_eqIntS x0 x1 = some r) : PCalls Tryz.prog 44 [L_I x0, L_I x1] (.bool r) := by
 refine PCalls.of_r k_laws_eqIntS rfl ?_
 unfold F_laws_eqIntS at hF
 refine RW.sreg (rl.run 1 rfl (rl.done (RW.seq (RW.sreg (rl.run 4 rfl ?_)))))
 refine rl.gen rfl rfl fun b hb => ?_
 cases b
 ·have h1 := iteBF hF hb
  refine rl.done (RW.cond_f rfl (RW.skip (RW.seq (RW.sreg (rl.run 1 rfl (rl.done ?_))))))
  obtain ⟨y5, ey5, h3⟩ := bindS h1
  refine RW.cutq (σ := Unit) (fun y2 => []) (fun y2 => []) (fun y => y5 = .inr y) (fun _ _ _ _ g h => RW.gh g h) ?_ ?_
  ·refine RW.blk ?_
   refine RW.iter (σ := Int) ey5 (fun s1 => [(0, L_I x0), (1, L_I x1), (5, .j s1)]) (fun s1 => []) (Gh.ren0 [] .nil rfl (.cons rfl (.dat (ekI.rlst)) (.cons rfl (.dat (ekI.rlst)) (.cons rfl (.dat .int) .nil)))) (fun s1 B o hS2 hB2 hE2 => ?_)
   unfold S_laws_eqIntS_1 at hS2
   refine RW.seq (RW.sreg (rl.run 3 rfl ?_))
   refine rl.gen rfl rfl fun b hb => ?_
   cases b
   ·have h4 := iteBF hS2 hb
    refine rl.done (RW.cond_f rfl (RW.exit (blkA_eq ?_)))
    cases h4
    exact ⟨_, (hE2 _ rfl).symm, (Gh.ren0 [] .nil rfl .nil)⟩
   ·have h5 := iteBT hS2 hb
    refine rl.done (RW.cond_t rfl (RW.skip (RW.seq (RW.blk (RW.sdrw (rdraw.op rfl rfl (rdraw.op rfl rfl ?_)))))))
    obtain ⟨v3, e3, h6⟩ := bindS h5
    refine rdraw.op rfl (x_ia_lst (enc := encI) (o := false) rfl rfl rfl e3) ?_
    refine rdraw.op rfl (x_ld_el (off' := 0) ekI rfl e3 rfl rfl rfl) ?_
    refine rdraw.op rfl rfl (rdraw.op rfl rfl ?_)
    obtain ⟨v4, e4, h7⟩ := bindS h6
    refine rdraw.op rfl (x_ia_lst (enc := encI) (o := false) rfl rfl rfl e4) ?_
    refine rdraw.op rfl (x_ld_el (off' := 0) ekI rfl e4 rfl rfl rfl) ?_
    refine rdraw.gen rfl rfl fun b hb => ?_
    cases b
    ·have h8 := iteBF h7 hb
     refine rdraw.done ?_
     refine RW.kp [0, 1, 5, 25] [(0, L_I x0), (1, L_I x1), (5, .j s1), (25, .bool false)] [] rfl rfl ?_
     refine RW.cond_f rfl (RW.skip (RW.reg (rl.run 3 rfl (rl.done ?_))))
     cases h8
     exact hB2 _ rfl _ _ (Gh.ren0 [] .nil rfl (.cons rfl (.dat (ekI.rlst)) (.cons rfl (.dat (ekI.rlst)) (.cons rfl (.dat .int) .nil))))
    ·have h9 := iteBT h7 hb
     refine rdraw.done ?_
     refine RW.kp [0, 1, 5, 25] [(0, L_I x0), (1, L_I x1), (5, .j s1), (25, .bool true)] [] rfl rfl ?_
     refine RW.cond_t rfl (RW.sreg (rl.run 1 rfl (rl.done (RW.ret ?_))))
     cases h9
     have h10 := elimL h3 (hE2 _ rfl)
     cases h10
     exact RRet.mk rfl .bool (by first | decide | simp)
  ·intro y2 hC
   have h3 := elimR h3 hC
   refine RW.sreg (rl.run 1 rfl (rl.done (RW.ret ?_)))
   cases h3
   exact RRet.mk rfl .bool (by first | decide | simp)
 ·have h11 := iteBT hF hb
  refine rl.done (RW.cond_t rfl (RW.sreg (rl.run 1 rfl (rl.done (RW.ret ?_)))))
  cases h11
  exact RRet.mk rfl .bool (by first | decide | simp)
theorem law_laws_eqStringS {x0 : List (List UInt8)} {x1 : List (List UInt8)} {r : Bool} (hF : F_laws_eqStringS x0 x1 = some r) : PCalls Tryz.prog 82 [L_S x0, L_S x1] (.bool r) := by
 refine PCalls.of_r k_laws_eqStringS rfl ?_
 unfold F_laws_eqStringS at hF
 refine RW.sreg (rl.run 1 rfl (rl.done (RW.seq (RW.sreg (rl.run 4 rfl ?_)))))
 refine rl.gen rfl rfl fun b hb => ?_
 cases b
 ·have h1 := iteBF hF hb
  refine rl.done (RW.cond_f rfl (RW.skip (RW.seq (RW.sreg (rl.run 1 rfl (rl.done ?_))))))
  obtain ⟨y5, ey5, h3⟩ := bindS h1
  refine RW.cutq (σ := Unit) (fun y2 => []) (fun y2 => []) (fun y => y5 = .inr y) (fun _ _ _ _ g h => RW.gh g h) ?_ ?_
  ·refine RW.blk ?_
   refine RW.iter (σ := Int) ey5 (fun s1 => [(0, L_S x0), (1, L_S x1), (5, .j s1)]) (fun s1 => []) (Gh.ren0 [] .nil rfl (.cons rfl (.dat (ekS.rlst)) (.cons rfl (.dat (ekS.rlst)) (.cons rfl (.dat .int) .nil)))) (fun s1 B o hS2 hB2 hE2 => ?_)
   unfold S_laws_eqStringS_1 at hS2
   refine RW.seq (RW.sreg (rl.run 3 rfl ?_))
   refine rl.gen rfl rfl fun b hb => ?_
   cases b
   ·have h4 := iteBF hS2 hb
    refine rl.done (RW.cond_f rfl (RW.exit (blkA_eq ?_)))
    cases h4
    exact ⟨_, (hE2 _ rfl).symm, (Gh.ren0 [] .nil rfl .nil)⟩
   ·have h5 := iteBT hS2 hb
    refine rl.done (RW.cond_t rfl (RW.skip (RW.seq (RW.blk (RW.sdrw (rdraw.op rfl rfl (rdraw.op rfl rfl ?_)))))))
    obtain ⟨v3, e3, h6⟩ := bindS h5
    refine rdraw.op rfl (x_ia_lst (enc := encS) (o := false) rfl rfl rfl e3) ?_
    refine rdraw.op rfl (x_ld_el (off' := 0) ekS rfl e3 rfl rfl rfl) ?_
    refine rdraw.op rfl rfl (rdraw.op rfl rfl ?_)
    obtain ⟨v4, e4, h7⟩ := bindS h6
    refine rdraw.op rfl (x_ia_lst (enc := encS) (o := false) rfl rfl rfl e4) ?_
    refine rdraw.op rfl (x_ld_el (off' := 0) ekS rfl e4 rfl rfl rfl) ?_
    refine rdraw.gen rfl rfl fun b hb => ?_
    cases b
    ·have h8 := iteBF h7 hb
     refine rdraw.done ?_
     refine RW.kp [0, 1, 5, 25] [(0, L_S x0), (1, L_S x1), (5, .j s1), (25, .bool false)] [] rfl rfl ?_
     refine RW.cond_f rfl (RW.skip (RW.reg (rl.run 3 rfl (rl.done ?_))))
     cases h8
     exact hB2 _ rfl _ _ (Gh.ren0 [] .nil rfl (.cons rfl (.dat (ekS.rlst)) (.cons rfl (.dat (ekS.rlst)) (.cons rfl (.dat .int) .nil))))
    ·have h9 := iteBT h7 hb
     refine rdraw.done ?_
     refine RW.kp [0, 1, 5, 25] [(0, L_S x0), (1, L_S x1), (5, .j s1), (25, .bool true)] [] rfl rfl ?_
     refine RW.cond_t rfl (RW.sreg (rl.run 1 rfl (rl.done (RW.ret ?_))))
     cases h9
     have h10 := elimL h3 (hE2 _ rfl)
     cases h10
     exact RRet.mk rfl .bool (by first | decide | simp)
  ·intro y2 hC
   have h3 := elimR h3 hC
   refine RW.sreg (rl.run 1 rfl (rl.done (RW.ret ?_)))
   cases h3
   exact RRet.mk rfl .bool (by first | decide | simp)
 ·have h11 := iteBT hF hb
  refine rl.done (RW.cond_t rfl (RW.sreg (rl.run 1 rfl (rl.done (RW.ret ?_)))))
  cases h11
  exact RRet.mk rfl .bool (by first | decide | simp)
theorem law_laws_eqWrite {x0 : TWrite} {x1 : TWrite} {r : Bool} (hF : F_laws_eqWrite x0 x1 = some r) : PCalls Tryz.prog 148 [.agg (enc_TWrite false x0), .agg (enc_TWrite false x1)] (.bool r) := by
 refine PCalls.of_r k_laws_eqWrite rfl ?_
 unfold F_laws_eqWrite at hF
 refine RW.sreg (rl.run 3 rfl (rl.done (RW.seq (RW.sreg (rl.run 4 rfl ?_)))))
 refine rl.gen rfl rfl fun b hb => ?_
 cases b
 ·have h1 := iteBF hF hb
  refine rl.done (RW.cond_f rfl (RW.skip (RW.seq (RW.sreg (rl.run 4 rfl ?_)))))
  refine rl.gen rfl rfl fun b hb => ?_
  cases b
  ·have h2 := iteBF h1 hb
   refine rl.done ?_
   refine RW.kp [14] [(14, .bool false)] [some ⟨[.j x0.At, .str x0.Text], 0⟩, some ⟨[.j x1.At, .str x1.Text], 0⟩] rfl rfl ?_
   refine RW.cond_f rfl (RW.skip (RW.sreg (rl.run 1 rfl (rl.done (RW.ret ?_)))))
   cases h2
   exact RRet.mk rfl .bool (by first | decide | simp)
  ·have h3 := iteBT h1 hb
   refine rl.done ?_
   refine RW.kp [14] [(14, .bool true)] [some ⟨[.j x0.At, .str x0.Text], 0⟩, some ⟨[.j x1.At, .str x1.Text], 0⟩] rfl rfl ?_
   refine RW.cond_t rfl (RW.sreg (rl.run 1 rfl (rl.done (RW.ret ?_))))
   cases h3
   exact RRet.mk rfl .bool (by first | decide | simp)
 ·have h4 := iteBT hF hb
  refine rl.done (RW.cond_t rfl (RW.sreg (rl.run 1 rfl (rl.done (RW.ret ?_)))))
  cases h4
  exact RRet.mk rfl .bool (by first | decide | simp)
theorem law_laws_eqWriteS {x0 : List TWrite} {x1 : List TWrite} {r : Bool} (hF : F_laws_eqWriteS x0 x1 = some r) : PCalls Tryz.prog 83 [L_TWrite x0, L_TWrite x1] (.bool r) := by
 refine PCalls.of_r k_laws_eqWriteS rfl ?_
 unfold F_laws_eqWriteS at hF
 refine RW.sreg (rl.run 1 rfl (rl.done (RW.seq (RW.sreg (rl.run 4 rfl ?_)))))
 refine rl.gen rfl rfl fun b hb => ?_
 cases b
 ·have h1 := iteBF hF hb
  refine rl.done (RW.cond_f rfl (RW.skip (RW.seq (RW.sreg (rl.run 1 rfl (rl.done ?_))))))
  obtain ⟨y6, ey6, h3⟩ := bindS h1
  refine RW.cutq (σ := Unit) (fun y2 => []) (fun y2 => []) (fun y => y6 = .inr y) (fun _ _ _ _ g h => RW.gh g h) ?_ ?_
  ·refine RW.blk ?_
   refine RW.iter (σ := Int) ey6 (fun s1 => [(0, L_TWrite x0), (1, L_TWrite x1), (5, .j s1)]) (fun s1 => []) (Gh.ren0 [] .nil rfl (.cons rfl (.dat (ek_TWrite.rlst)) (.cons rfl (.dat (ek_TWrite.rlst)) (.cons rfl (.dat .int) .nil)))) (fun s1 B o hS2 hB2 hE2 => ?_)
   unfold S_laws_eqWriteS_1 at hS2
   refine RW.seq (RW.sreg (rl.run 3 rfl ?_))
   refine rl.gen rfl rfl fun b hb => ?_
   cases b
   ·have h4 := iteBF hS2 hb
    refine rl.done (RW.cond_f rfl (RW.exit (blkA_eq ?_)))
    cases h4
    exact ⟨_, (hE2 _ rfl).symm, (Gh.ren0 [] .nil rfl .nil)⟩
   ·have h5 := iteBT hS2 hb
    refine rl.done (RW.cond_t rfl (RW.skip (RW.seq (RW.blk (RW.sdrw (rdraw.op rfl rfl (rdraw.op rfl rfl ?_)))))))
    obtain ⟨v3, e3, h6⟩ := bindS h5
    refine rdraw.op rfl (x_ia_lst (enc := enc_TWrite) (o := false) rfl rfl rfl e3) ?_
    refine rdraw.op rfl (x_ld_ela (off' := 0) (vs := (enc_TWrite false v3)) ek_TWrite rfl e3 rfl rfl rfl) ?_
    refine rdraw.op rfl rfl (rdraw.op rfl rfl ?_)
    obtain ⟨v4, e4, h7⟩ := bindS h6
    refine rdraw.op rfl (x_ia_lst (enc := enc_TWrite) (o := false) rfl rfl rfl e4) ?_
    refine rdraw.op rfl (x_ld_ela (off' := 0) (vs := (enc_TWrite false v4)) ek_TWrite rfl e4 rfl rfl rfl) ?_
    obtain ⟨v5, e5, h8⟩ := bindS h7
    refine rdraw.call rfl rfl rfl (CallW.val (r' := .bool v5) ok_laws_eqWrite (law_laws_eqWrite e5) (.cons (.dat (.agg (ek_TWrite.dat false _))) (.cons (.dat (.agg (ek_TWrite.dat false _))) .nil)) .refl ⟨rfl, ?_⟩)
    cases hb : v5
    ·have h9 := iteBF h8 hb
     refine rdraw.op rfl rfl (rdraw.done ?_)
     refine RW.kp [0, 1, 5, 26] [(0, L_TWrite x0), (1, L_TWrite x1), (5, .j s1), (26, .bool true)] [] rfl rfl ?_
     refine RW.cond_t rfl (RW.sreg (rl.run 1 rfl (rl.done (RW.ret ?_))))
     cases h9
     have h10 := elimL h3 (hE2 _ rfl)
     cases h10
     exact RRet.mk rfl .bool (by first | decide | simp)
    ·have h11 := iteBT h8 hb
     refine rdraw.op rfl rfl (rdraw.done ?_)
     refine RW.kp [0, 1, 5, 26] [(0, L_TWrite x0), (1, L_TWrite x1), (5, .j s1), (26, .bool false)] [] rfl rfl ?_
     refine RW.cond_f rfl (RW.skip (RW.reg (rl.run 3 rfl (rl.done ?_))))
     cases h11
     exact hB2 _ rfl _ _ (Gh.ren0 [] .nil rfl (.cons rfl (.dat (ek_TWrite.rlst)) (.cons rfl (.dat (ek_TWrite.rlst)) (.cons rfl (.dat .int) .nil))))
  ·intro y2 hC
   have h3 := elimR h3 hC
   refine RW.sreg (rl.run 1 rfl (rl.done (RW.ret ?_)))
   cases h3
   exact RRet.mk rfl .bool (by first | decide | simp)
 ·have h12 := iteBT hF hb
  refine rl.done (RW.cond_t rfl (RW.sreg (rl.run 1 rfl (rl.done (RW.ret ?_)))))
  cases h12
  exact RRet.mk rfl .bool (by first | decide | simp)
theorem law_laws_eqDisk {x0 : TDisk} {x1 : TDisk} {r : Bool} (hF : F_laws_eqDisk x0 x1 = some r) : PCalls Tryz.prog 38 [.agg (enc_TDisk false x0), .agg (enc_TDisk false x1)] (.bool r) := by
 refine PCalls.of_r k_laws_eqDisk rfl ?_
 unfold F_laws_eqDisk at hF
 refine RW.sreg (rl.run 3 rfl (rl.done (RW.seq (RW.sreg (rl.run 4 rfl ?_)))))
 obtain ⟨v1, e1, h1⟩ := bindS hF
 refine rl.call rfl rfl rfl (CallW.val (r' := .bool v1) ok_laws_eqStringS (law_laws_eqStringS e1) (.cons (.lst ekS) (.cons (.lst ekS) .nil)) .refl ?_)
 cases hb : v1
 ·have h2 := iteBF h1 hb
  refine rl.run 1 rfl (rl.done (RW.cond_t rfl (RW.sreg (rl.run 1 rfl (rl.done (RW.ret ?_))))))
  cases h2
  exact RRet.mk rfl .bool (by first | decide | simp)
 ·have h3 := iteBT h1 hb
  refine rl.run 1 rfl (rl.done (RW.cond_f rfl (RW.skip (RW.seq (RW.sreg (rl.run 4 rfl ?_))))))
  obtain ⟨v2, e2, h4⟩ := bindS h3
  refine rl.call rfl rfl rfl (CallW.val (r' := .bool v2) ok_laws_eqWriteS (law_laws_eqWriteS e2) (.cons (.lst ek_TWrite) (.cons (.lst ek_TWrite) .nil)) .refl ?_)
  cases hb : v2
  ·have h5 := iteBF h4 hb
   refine rl.run 1 rfl (rl.done ?_)
   refine RW.kp [16] [(16, .bool true)] [some ⟨[L_S x0.Sectors, L_TWrite x0.Cache], 0⟩, some ⟨[L_S x1.Sectors, L_TWrite x1.Cache], 0⟩] rfl rfl ?_
   refine RW.cond_t rfl (RW.sreg (rl.run 1 rfl (rl.done (RW.ret ?_))))
   cases h5
   exact RRet.mk rfl .bool (by first | decide | simp)
  ·have h6 := iteBT h4 hb
   refine rl.run 1 rfl (rl.done ?_)
   refine RW.kp [16] [(16, .bool false)] [some ⟨[L_S x0.Sectors, L_TWrite x0.Cache], 0⟩, some ⟨[L_S x1.Sectors, L_TWrite x1.Cache], 0⟩] rfl rfl ?_
   refine RW.cond_f rfl (RW.skip (RW.sreg (rl.run 1 rfl (rl.done (RW.ret ?_)))))
   cases h6
   exact RRet.mk rfl .bool (by first | decide | simp)
set_option maxHeartbeats 2000000 in
theorem law_laws_eqRec {x0 : TRec} {x1 : TRec} {r : Bool} (hF : F_laws_eqRec x0 x1 = some r) : PCalls Tryz.prog 213 [.agg (enc_TRec false x0), .agg (enc_TRec false x1)] (.bool r) := by
 refine PCalls.of_r k_laws_eqRec rfl ?_
 unfold F_laws_eqRec at hF
 refine RW.sreg (rl.run 3 rfl (rl.done (RW.seq (RW.sreg (rl.run 4 rfl ?_)))))
 refine rl.gen rfl rfl fun b hb => ?_
 cases b
 ·have h1 := iteBF hF hb
  refine rl.done (RW.cond_f rfl (RW.skip (RW.seq (RW.sreg (rl.run 4 rfl ?_)))))
  refine rl.gen rfl rfl fun b hb => ?_
  cases b
  ·have h2 := iteBF h1 hb
   refine rl.done ?_
   refine RW.kp [2, 3, 14] [(2, .ptr 0 0), (3, .ptr 1 0), (14, .bool false)] [some ⟨[.j x0.Kind, .j x0.Valid, .j x0.Uid, .j x0.Next, .j x0.Flags, .str x0.User, .str x0.Name, .str x0.Text], 0⟩, some ⟨[.j x1.Kind, .j x1.Valid, .j x1.Uid, .j x1.Next, .j x1.Flags, .str x1.User, .str x1.Name, .str x1.Text], 0⟩] rfl rfl ?_
   refine RW.cond_f rfl (RW.skip (RW.seq (RW.sreg (rl.run 4 rfl ?_))))
   refine rl.gen rfl rfl fun b hb => ?_
   cases b
   ·have h3 := iteBF h2 hb
    refine rl.done (RW.cond_f rfl (RW.skip (RW.seq (RW.sreg (rl.run 4 rfl ?_)))))
    refine rl.gen rfl rfl fun b hb => ?_
    cases b
    ·have h4 := iteBF h3 hb
     refine rl.done (RW.cond_f rfl (RW.skip (RW.seq (RW.sreg (rl.run 4 rfl ?_)))))
     refine rl.gen rfl rfl fun b hb => ?_
     cases b
     ·have h5 := iteBF h4 hb
      refine rl.done ?_
      refine RW.kp [2, 3, 29] [(2, .ptr 0 0), (3, .ptr 1 0), (29, .bool false)] [some ⟨[.j x0.Kind, .j x0.Valid, .j x0.Uid, .j x0.Next, .j x0.Flags, .str x0.User, .str x0.Name, .str x0.Text], 0⟩, some ⟨[.j x1.Kind, .j x1.Valid, .j x1.Uid, .j x1.Next, .j x1.Flags, .str x1.User, .str x1.Name, .str x1.Text], 0⟩] rfl rfl ?_
      refine RW.cond_f rfl (RW.skip (RW.seq (RW.sreg (rl.run 4 rfl ?_))))
      refine rl.gen rfl rfl fun b hb => ?_
      cases b
      ·have h6 := iteBF h5 hb
       refine rl.done (RW.cond_f rfl (RW.skip (RW.seq (RW.sreg (rl.run 4 rfl ?_)))))
       refine rl.gen rfl rfl fun b hb => ?_
       cases b
       ·have h7 := iteBF h6 hb
        refine rl.done (RW.cond_f rfl (RW.skip (RW.seq (RW.sreg (rl.run 4 rfl ?_)))))
        refine rl.gen rfl rfl fun b hb => ?_
        cases b
        ·have h8 := iteBF h7 hb
         refine rl.done ?_
         refine RW.kp [44] [(44, .bool false)] [some ⟨[.j x0.Kind, .j x0.Valid, .j x0.Uid, .j x0.Next, .j x0.Flags, .str x0.User, .str x0.Name, .str x0.Text], 0⟩, some ⟨[.j x1.Kind, .j x1.Valid, .j x1.Uid, .j x1.Next, .j x1.Flags, .str x1.User, .str x1.Name, .str x1.Text], 0⟩] rfl rfl ?_
         refine RW.cond_f rfl (RW.skip (RW.sreg (rl.run 1 rfl (rl.done (RW.ret ?_)))))
         cases h8
         exact RRet.mk rfl .bool (by first | decide | simp)
        ·have h9 := iteBT h7 hb
         refine rl.done ?_
         refine RW.kp [44] [(44, .bool true)] [some ⟨[.j x0.Kind, .j x0.Valid, .j x0.Uid, .j x0.Next, .j x0.Flags, .str x0.User, .str x0.Name, .str x0.Text], 0⟩, some ⟨[.j x1.Kind, .j x1.Valid, .j x1.Uid, .j x1.Next, .j x1.Flags, .str x1.User, .str x1.Name, .str x1.Text], 0⟩] rfl rfl ?_
         refine RW.cond_t rfl (RW.sreg (rl.run 1 rfl (rl.done (RW.ret ?_))))
         cases h9
         exact RRet.mk rfl .bool (by first | decide | simp)
       ·have h10 := iteBT h6 hb
        refine rl.done (RW.cond_t rfl (RW.sreg (rl.run 1 rfl (rl.done ?_))))
        refine RW.kp [4] [(4, .bool false)] [some ⟨[.j x0.Kind, .j x0.Valid, .j x0.Uid, .j x0.Next, .j x0.Flags, .str x0.User, .str x0.Name, .str x0.Text], 0⟩, some ⟨[.j x1.Kind, .j x1.Valid, .j x1.Uid, .j x1.Next, .j x1.Flags, .str x1.User, .str x1.Name, .str x1.Text], 0⟩] rfl rfl ?_
        refine RW.ret ?_
        cases h10
        exact RRet.mk rfl .bool (by first | decide | simp)
      ·have h11 := iteBT h5 hb
       refine rl.done (RW.cond_t rfl (RW.sreg (rl.run 1 rfl (rl.done (RW.ret ?_)))))
       cases h11
       exact RRet.mk rfl .bool (by first | decide | simp)
     ·have h12 := iteBT h4 hb
      refine rl.done ?_
      refine RW.kp [2, 3, 29] [(2, .ptr 0 0), (3, .ptr 1 0), (29, .bool true)] [some ⟨[.j x0.Kind, .j x0.Valid, .j x0.Uid, .j x0.Next, .j x0.Flags, .str x0.User, .str x0.Name, .str x0.Text], 0⟩, some ⟨[.j x1.Kind, .j x1.Valid, .j x1.Uid, .j x1.Next, .j x1.Flags, .str x1.User, .str x1.Name, .str x1.Text], 0⟩] rfl rfl ?_
      refine RW.cond_t rfl (RW.sreg (rl.run 1 rfl (rl.done (RW.ret ?_))))
      cases h12
      exact RRet.mk rfl .bool (by first | decide | simp)
    ·have h13 := iteBT h3 hb
     refine rl.done (RW.cond_t rfl (RW.sreg (rl.run 1 rfl (rl.done ?_))))
     refine RW.kp [4] [(4, .bool false)] [some ⟨[.j x0.Kind, .j x0.Valid, .j x0.Uid, .j x0.Next, .j x0.Flags, .str x0.User, .str x0.Name, .str x0.Text], 0⟩, some ⟨[.j x1.Kind, .j x1.Valid, .j x1.Uid, .j x1.Next, .j x1.Flags, .str x1.User, .str x1.Name, .str x1.Text], 0⟩] rfl rfl ?_
     refine RW.ret ?_
     cases h13
     exact RRet.mk rfl .bool (by first | decide | simp)
   ·have h14 := iteBT h2 hb
    refine rl.done (RW.cond_t rfl (RW.sreg (rl.run 1 rfl (rl.done (RW.ret ?_)))))
    cases h14
    exact RRet.mk rfl .bool (by first | decide | simp)
  ·have h15 := iteBT h1 hb
   refine rl.done ?_
   refine RW.kp [2, 3, 14] [(2, .ptr 0 0), (3, .ptr 1 0), (14, .bool true)] [some ⟨[.j x0.Kind, .j x0.Valid, .j x0.Uid, .j x0.Next, .j x0.Flags, .str x0.User, .str x0.Name, .str x0.Text], 0⟩, some ⟨[.j x1.Kind, .j x1.Valid, .j x1.Uid, .j x1.Next, .j x1.Flags, .str x1.User, .str x1.Name, .str x1.Text], 0⟩] rfl rfl ?_
   refine RW.cond_t rfl (RW.sreg (rl.run 1 rfl (rl.done (RW.ret ?_))))
   cases h15
   exact RRet.mk rfl .bool (by first | decide | simp)
 ·have h16 := iteBT hF hb
  refine rl.done (RW.cond_t rfl (RW.sreg (rl.run 1 rfl (rl.done (RW.ret ?_)))))
  cases h16
  exact RRet.mk rfl .bool (by first | decide | simp)
theorem law_laws_eqItem {x0 : TItem} {x1 : TItem} {r : Bool} (hF : F_laws_eqItem x0 x1 = some r) : PCalls Tryz.prog 192 [.agg (enc_TItem false x0), .agg (enc_TItem false x1)] (.bool r) := by
 refine PCalls.of_r k_laws_eqItem rfl ?_
 unfold F_laws_eqItem at hF
 refine RW.sreg (rl.run 3 rfl (rl.done (RW.seq (RW.sreg (rl.run 4 rfl ?_)))))
 refine rl.gen rfl rfl fun b hb => ?_
 cases b
 ·have h1 := iteBF hF hb
  refine rl.done (RW.cond_f rfl (RW.skip (RW.seq (RW.sreg (rl.run 4 rfl ?_)))))
  obtain ⟨v1, e1, h2⟩ := bindS h1
  refine rl.call rfl rfl rfl (CallW.val (r' := .bool v1) ok_laws_eqRec (law_laws_eqRec e1) (.cons (DFL.agg (.cons .int (.cons .int (.cons .int (.cons .int (.cons .int (.cons .str (.cons .str (.cons .str .nil))))))))) (.cons (DFL.agg (.cons .int (.cons .int (.cons .int (.cons .int (.cons .int (.cons .str (.cons .str (.cons .str .nil))))))))) .nil)) .refl ?_)
  cases hb : v1
  ·have h3 := iteBF h2 hb
   refine rl.run 1 rfl (rl.done ?_)
   refine RW.kp [15] [(15, .bool true)] [some ⟨[.j x0.Seq, .j x0.Rec.Kind, .j x0.Rec.Valid, .j x0.Rec.Uid, .j x0.Rec.Next, .j x0.Rec.Flags, .str x0.Rec.User, .str x0.Rec.Name, .str x0.Rec.Text], 0⟩, some ⟨[.j x1.Seq, .j x1.Rec.Kind, .j x1.Rec.Valid, .j x1.Rec.Uid, .j x1.Rec.Next, .j x1.Rec.Flags, .str x1.Rec.User, .str x1.Rec.Name, .str x1.Rec.Text], 0⟩] rfl rfl ?_
   refine RW.cond_t rfl (RW.sreg (rl.run 1 rfl (rl.done (RW.ret ?_))))
   cases h3
   exact RRet.mk rfl .bool (by first | decide | simp)
  ·have h4 := iteBT h2 hb
   refine rl.run 1 rfl (rl.done ?_)
   refine RW.kp [15] [(15, .bool false)] [some ⟨[.j x0.Seq, .j x0.Rec.Kind, .j x0.Rec.Valid, .j x0.Rec.Uid, .j x0.Rec.Next, .j x0.Rec.Flags, .str x0.Rec.User, .str x0.Rec.Name, .str x0.Rec.Text], 0⟩, some ⟨[.j x1.Seq, .j x1.Rec.Kind, .j x1.Rec.Valid, .j x1.Rec.Uid, .j x1.Rec.Next, .j x1.Rec.Flags, .str x1.Rec.User, .str x1.Rec.Name, .str x1.Rec.Text], 0⟩] rfl rfl ?_
   refine RW.cond_f rfl (RW.skip (RW.sreg (rl.run 1 rfl (rl.done (RW.ret ?_)))))
   cases h4
   exact RRet.mk rfl .bool (by first | decide | simp)
 ·have h5 := iteBT hF hb
  refine rl.done (RW.cond_t rfl (RW.sreg (rl.run 1 rfl (rl.done (RW.ret ?_)))))
  cases h5
  exact RRet.mk rfl .bool (by first | decide | simp)
theorem law_laws_eqItemS {x0 : List TItem} {x1 : List TItem} {r : Bool} (hF : F_laws_eqItemS x0 x1 = some r) : PCalls Tryz.prog 149 [L_TItem x0, L_TItem x1] (.bool r) := by
 refine PCalls.of_r k_laws_eqItemS rfl ?_
 unfold F_laws_eqItemS at hF
 refine RW.sreg (rl.run 1 rfl (rl.done (RW.seq (RW.sreg (rl.run 4 rfl ?_)))))
 refine rl.gen rfl rfl fun b hb => ?_
 cases b
 ·have h1 := iteBF hF hb
  refine rl.done (RW.cond_f rfl (RW.skip (RW.seq (RW.sreg (rl.run 1 rfl (rl.done ?_))))))
  obtain ⟨y6, ey6, h3⟩ := bindS h1
  refine RW.cutq (σ := Unit) (fun y2 => []) (fun y2 => []) (fun y => y6 = .inr y) (fun _ _ _ _ g h => RW.gh g h) ?_ ?_
  ·refine RW.blk ?_
   refine RW.iter (σ := Int) ey6 (fun s1 => [(0, L_TItem x0), (1, L_TItem x1), (5, .j s1)]) (fun s1 => []) (Gh.ren0 [] .nil rfl (.cons rfl (.dat (ek_TItem.rlst)) (.cons rfl (.dat (ek_TItem.rlst)) (.cons rfl (.dat .int) .nil)))) (fun s1 B o hS2 hB2 hE2 => ?_)
   unfold S_laws_eqItemS_1 at hS2
   refine RW.seq (RW.sreg (rl.run 3 rfl ?_))
   refine rl.gen rfl rfl fun b hb => ?_
   cases b
   ·have h4 := iteBF hS2 hb
    refine rl.done (RW.cond_f rfl (RW.exit (blkA_eq ?_)))
    cases h4
    exact ⟨_, (hE2 _ rfl).symm, (Gh.ren0 [] .nil rfl .nil)⟩
   ·have h5 := iteBT hS2 hb
    refine rl.done (RW.cond_t rfl (RW.skip (RW.seq (RW.blk (RW.sdrw (rdraw.op rfl rfl (rdraw.op rfl rfl ?_)))))))
    obtain ⟨v3, e3, h6⟩ := bindS h5
    refine rdraw.op rfl (x_ia_lst (enc := enc_TItem) (o := false) rfl rfl rfl e3) ?_
    refine rdraw.op rfl (x_ld_ela (off' := 0) (vs := (enc_TItem false v3)) ek_TItem rfl e3 rfl rfl rfl) ?_
    refine rdraw.op rfl rfl (rdraw.op rfl rfl ?_)
    obtain ⟨v4, e4, h7⟩ := bindS h6
    refine rdraw.op rfl (x_ia_lst (enc := enc_TItem) (o := false) rfl rfl rfl e4) ?_
    refine rdraw.op rfl (x_ld_ela (off' := 0) (vs := (enc_TItem false v4)) ek_TItem rfl e4 rfl rfl rfl) ?_
    obtain ⟨v5, e5, h8⟩ := bindS h7
    refine rdraw.call rfl rfl rfl (CallW.val (r' := .bool v5) ok_laws_eqItem (law_laws_eqItem e5) (.cons (.dat (.agg (ek_TItem.dat false _))) (.cons (.dat (.agg (ek_TItem.dat false _))) .nil)) .refl ⟨rfl, ?_⟩)
    cases hb : v5
    ·have h9 := iteBF h8 hb
     refine rdraw.op rfl rfl (rdraw.done ?_)
     refine RW.kp [0, 1, 5, 26] [(0, L_TItem x0), (1, L_TItem x1), (5, .j s1), (26, .bool true)] [] rfl rfl ?_
     refine RW.cond_t rfl (RW.sreg (rl.run 1 rfl (rl.done (RW.ret ?_))))
     cases h9
     have h10 := elimL h3 (hE2 _ rfl)
     cases h10
     exact RRet.mk rfl .bool (by first | decide | simp)
    ·have h11 := iteBT h8 hb
     refine rdraw.op rfl rfl (rdraw.done ?_)
     refine RW.kp [0, 1, 5, 26] [(0, L_TItem x0), (1, L_TItem x1), (5, .j s1), (26, .bool false)] [] rfl rfl ?_
     refine RW.cond_f rfl (RW.skip (RW.reg (rl.run 3 rfl (rl.done ?_))))
     cases h11
     exact hB2 _ rfl _ _ (Gh.ren0 [] .nil rfl (.cons rfl (.dat (ek_TItem.rlst)) (.cons rfl (.dat (ek_TItem.rlst)) (.cons rfl (.dat .int) .nil))))
  ·intro y2 hC
   have h3 := elimR h3 hC
   refine RW.sreg (rl.run 1 rfl (rl.done (RW.ret ?_)))
   cases h3
   exact RRet.mk rfl .bool (by first | decide | simp)
 ·have h12 := iteBT hF hb
  refine rl.done (RW.cond_t rfl (RW.sreg (rl.run 1 rfl (rl.done (RW.ret ?_)))))
  cases h12
  exact RRet.mk rfl .bool (by first | decide | simp)
theorem law_laws_eqSeg {x0 : TSeg} {x1 : TSeg} {r : Bool} (hF : F_laws_eqSeg x0 x1 = some r) : PCalls Tryz.prog 84 [.agg (enc_TSeg false x0), .agg (enc_TSeg false x1)] (.bool r) := by
 refine PCalls.of_r k_laws_eqSeg rfl ?_
 unfold F_laws_eqSeg at hF
 refine RW.sreg (rl.run 3 rfl (rl.done (RW.seq (RW.sreg (rl.run 4 rfl ?_)))))
 refine rl.gen rfl rfl fun b hb => ?_
 cases b
 ·have h1 := iteBF hF hb
  refine rl.done (RW.cond_f rfl (RW.skip (RW.seq (RW.sreg (rl.run 4 rfl ?_)))))
  refine rl.gen rfl rfl fun b hb => ?_
  cases b
  ·have h2 := iteBF h1 hb
   refine rl.done ?_
   refine RW.kp [2, 3, 14] [(2, .ptr 0 0), (3, .ptr 1 0), (14, .bool false)] [some ⟨[.j x0.No, .j x0.Gen, .j x0.End, L_TItem x0.Items], 0⟩, some ⟨[.j x1.No, .j x1.Gen, .j x1.End, L_TItem x1.Items], 0⟩] rfl rfl ?_
   refine RW.cond_f rfl (RW.skip (RW.seq (RW.sreg (rl.run 4 rfl ?_))))
   refine rl.gen rfl rfl fun b hb => ?_
   cases b
   ·have h3 := iteBF h2 hb
    refine rl.done (RW.cond_f rfl (RW.skip (RW.seq (RW.sreg (rl.run 4 rfl ?_)))))
    obtain ⟨v1, e1, h4⟩ := bindS h3
    refine rl.call rfl rfl rfl (CallW.val (r' := .bool v1) ok_laws_eqItemS (law_laws_eqItemS e1) (.cons (.lst ek_TItem) (.cons (.lst ek_TItem) .nil)) .refl ?_)
    cases hb : v1
    ·have h5 := iteBF h4 hb
     refine rl.run 1 rfl (rl.done ?_)
     refine RW.kp [25] [(25, .bool true)] [some ⟨[.j x0.No, .j x0.Gen, .j x0.End, L_TItem x0.Items], 0⟩, some ⟨[.j x1.No, .j x1.Gen, .j x1.End, L_TItem x1.Items], 0⟩] rfl rfl ?_
     refine RW.cond_t rfl (RW.sreg (rl.run 1 rfl (rl.done (RW.ret ?_))))
     cases h5
     exact RRet.mk rfl .bool (by first | decide | simp)
    ·have h6 := iteBT h4 hb
     refine rl.run 1 rfl (rl.done ?_)
     refine RW.kp [25] [(25, .bool false)] [some ⟨[.j x0.No, .j x0.Gen, .j x0.End, L_TItem x0.Items], 0⟩, some ⟨[.j x1.No, .j x1.Gen, .j x1.End, L_TItem x1.Items], 0⟩] rfl rfl ?_
     refine RW.cond_f rfl (RW.skip (RW.sreg (rl.run 1 rfl (rl.done (RW.ret ?_)))))
     cases h6
     exact RRet.mk rfl .bool (by first | decide | simp)
   ·have h7 := iteBT h2 hb
    refine rl.done (RW.cond_t rfl (RW.sreg (rl.run 1 rfl (rl.done (RW.ret ?_)))))
    cases h7
    exact RRet.mk rfl .bool (by first | decide | simp)
  ·have h8 := iteBT h1 hb
   refine rl.done ?_
   refine RW.kp [2, 3, 14] [(2, .ptr 0 0), (3, .ptr 1 0), (14, .bool true)] [some ⟨[.j x0.No, .j x0.Gen, .j x0.End, L_TItem x0.Items], 0⟩, some ⟨[.j x1.No, .j x1.Gen, .j x1.End, L_TItem x1.Items], 0⟩] rfl rfl ?_
   refine RW.cond_t rfl (RW.sreg (rl.run 1 rfl (rl.done (RW.ret ?_))))
   cases h8
   exact RRet.mk rfl .bool (by first | decide | simp)
 ·have h9 := iteBT hF hb
  refine rl.done (RW.cond_t rfl (RW.sreg (rl.run 1 rfl (rl.done (RW.ret ?_)))))
  cases h9
  exact RRet.mk rfl .bool (by first | decide | simp)
theorem law_laws_eqSegS {x0 : List TSeg} {x1 : List TSeg} {r : Bool} (hF : F_laws_eqSegS x0 x1 = some r) : PCalls Tryz.prog 39 [L_TSeg x0, L_TSeg x1] (.bool r) := by
 refine PCalls.of_r k_laws_eqSegS rfl ?_
 unfold F_laws_eqSegS at hF
 refine RW.sreg (rl.run 1 rfl (rl.done (RW.seq (RW.sreg (rl.run 4 rfl ?_)))))
 refine rl.gen rfl rfl fun b hb => ?_
 cases b
 ·have h1 := iteBF hF hb
  refine rl.done (RW.cond_f rfl (RW.skip (RW.seq (RW.sreg (rl.run 1 rfl (rl.done ?_))))))
  obtain ⟨y6, ey6, h3⟩ := bindS h1
  refine RW.cutq (σ := Unit) (fun y2 => []) (fun y2 => []) (fun y => y6 = .inr y) (fun _ _ _ _ g h => RW.gh g h) ?_ ?_
  ·refine RW.blk ?_
   refine RW.iter (σ := Int) ey6 (fun s1 => [(0, L_TSeg x0), (1, L_TSeg x1), (5, .j s1)]) (fun s1 => []) (Gh.ren0 [] .nil rfl (.cons rfl (.dat (ek_TSeg.rlst)) (.cons rfl (.dat (ek_TSeg.rlst)) (.cons rfl (.dat .int) .nil)))) (fun s1 B o hS2 hB2 hE2 => ?_)
   unfold S_laws_eqSegS_1 at hS2
   refine RW.seq (RW.sreg (rl.run 3 rfl ?_))
   refine rl.gen rfl rfl fun b hb => ?_
   cases b
   ·have h4 := iteBF hS2 hb
    refine rl.done (RW.cond_f rfl (RW.exit (blkA_eq ?_)))
    cases h4
    exact ⟨_, (hE2 _ rfl).symm, (Gh.ren0 [] .nil rfl .nil)⟩
   ·have h5 := iteBT hS2 hb
    refine rl.done (RW.cond_t rfl (RW.skip (RW.seq (RW.blk (RW.sdrw (rdraw.op rfl rfl (rdraw.op rfl rfl ?_)))))))
    obtain ⟨v3, e3, h6⟩ := bindS h5
    refine rdraw.op rfl (x_ia_lst (enc := enc_TSeg) (o := false) rfl rfl rfl e3) ?_
    refine rdraw.op rfl (x_ld_ela (off' := 0) (vs := (enc_TSeg false v3)) ek_TSeg rfl e3 rfl rfl rfl) ?_
    refine rdraw.op rfl rfl (rdraw.op rfl rfl ?_)
    obtain ⟨v4, e4, h7⟩ := bindS h6
    refine rdraw.op rfl (x_ia_lst (enc := enc_TSeg) (o := false) rfl rfl rfl e4) ?_
    refine rdraw.op rfl (x_ld_ela (off' := 0) (vs := (enc_TSeg false v4)) ek_TSeg rfl e4 rfl rfl rfl) ?_
    obtain ⟨v5, e5, h8⟩ := bindS h7
    refine rdraw.call rfl rfl rfl (CallW.val (r' := .bool v5) ok_laws_eqSeg (law_laws_eqSeg e5) (.cons (.dat (.agg (ek_TSeg.dat false _))) (.cons (.dat (.agg (ek_TSeg.dat false _))) .nil)) .refl ⟨rfl, ?_⟩)
    cases hb : v5
    ·have h9 := iteBF h8 hb
     refine rdraw.op rfl rfl (rdraw.done ?_)
     refine RW.kp [0, 1, 5, 26] [(0, L_TSeg x0), (1, L_TSeg x1), (5, .j s1), (26, .bool true)] [] rfl rfl ?_
     refine RW.cond_t rfl (RW.sreg (rl.run 1 rfl (rl.done (RW.ret ?_))))
     cases h9
     have h10 := elimL h3 (hE2 _ rfl)
     cases h10
     exact RRet.mk rfl .bool (by first | decide | simp)
    ·have h11 := iteBT h8 hb
     refine rdraw.op rfl rfl (rdraw.done ?_)
     refine RW.kp [0, 1, 5, 26] [(0, L_TSeg x0), (1, L_TSeg x1), (5, .j s1), (26, .bool false)] [] rfl rfl ?_
     refine RW.cond_f rfl (RW.skip (RW.reg (rl.run 3 rfl (rl.done ?_))))
     cases h11
     exact hB2 _ rfl _ _ (Gh.ren0 [] .nil rfl (.cons rfl (.dat (ek_TSeg.rlst)) (.cons rfl (.dat (ek_TSeg.rlst)) (.cons rfl (.dat .int) .nil))))
  ·intro y2 hC
   have h3 := elimR h3 hC
   refine RW.sreg (rl.run 1 rfl (rl.done (RW.ret ?_)))
   cases h3
   exact RRet.mk rfl .bool (by first | decide | simp)
 ·have h12 := iteBT hF hb
  refine rl.done (RW.cond_t rfl (RW.sreg (rl.run 1 rfl (rl.done (RW.ret ?_)))))
  cases h12
  exact RRet.mk rfl .bool (by first | decide | simp)
set_option maxHeartbeats 2000000 in
theorem law_laws_eqLog {x0 : TLog} {x1 : TLog} {r : Bool} (hF : F_laws_eqLog x0 x1 = some r) : PCalls Tryz.prog 9 [.agg (enc_TLog false x0), .agg (enc_TLog false x1)] (.bool r) := by
 refine PCalls.of_r k_laws_eqLog rfl ?_
 unfold F_laws_eqLog at hF
 refine RW.sreg (rl.run 3 rfl (rl.done (RW.seq (RW.sreg (rl.run 4 rfl ?_)))))
 obtain ⟨v1, e1, h1⟩ := bindS hF
 refine rl.call rfl rfl rfl (CallW.val (r' := .bool v1) ok_laws_eqDisk (law_laws_eqDisk e1) (.cons (DFL.agg (.cons (.lst ekS) (.cons (.lst ek_TWrite) .nil))) (.cons (DFL.agg (.cons (.lst ekS) (.cons (.lst ek_TWrite) .nil))) .nil)) .refl ?_)
 cases hb : v1
 ·have h2 := iteBF h1 hb
  refine rl.run 1 rfl (rl.done (RW.cond_t rfl (RW.sreg (rl.run 1 rfl (rl.done (RW.ret ?_))))))
  cases h2
  exact RRet.mk rfl .bool (by first | decide | simp)
 ·have h3 := iteBT h1 hb
  refine rl.run 1 rfl (rl.done (RW.cond_f rfl (RW.skip (RW.seq (RW.sreg (rl.run 4 rfl ?_))))))
  refine rl.gen rfl rfl fun b hb => ?_
  cases b
  ·have h4 := iteBF h3 hb
   refine rl.done ?_
   refine RW.kp [2, 3, 15] [(2, .ptr 0 0), (3, .ptr 1 0), (15, .bool false)] [some ⟨[L_S x0.Disk.Sectors, L_TWrite x0.Disk.Cache, .j x0.Segs, L_TSeg x0.Used, .j x0.NextGen, .j x0.NextSeq, .j x0.Stamp, .j x0.NextValid], 0⟩, some ⟨[L_S x1.Disk.Sectors, L_TWrite x1.Disk.Cache, .j x1.Segs, L_TSeg x1.Used, .j x1.NextGen, .j x1.NextSeq, .j x1.Stamp, .j x1.NextValid], 0⟩] rfl rfl ?_
   refine RW.cond_f rfl (RW.skip (RW.seq (RW.sreg (rl.run 4 rfl ?_))))
   obtain ⟨v2, e2, h5⟩ := bindS h4
   refine rl.call rfl rfl rfl (CallW.val (r' := .bool v2) ok_laws_eqSegS (law_laws_eqSegS e2) (.cons (.lst ek_TSeg) (.cons (.lst ek_TSeg) .nil)) .refl ?_)
   cases hb : v2
   ·have h6 := iteBF h5 hb
    refine rl.run 1 rfl (rl.done (RW.cond_t rfl (RW.sreg (rl.run 1 rfl (rl.done (RW.ret ?_))))))
    cases h6
    exact RRet.mk rfl .bool (by first | decide | simp)
   ·have h7 := iteBT h5 hb
    refine rl.run 1 rfl (rl.done (RW.cond_f rfl (RW.skip (RW.seq (RW.sreg (rl.run 4 rfl ?_))))))
    refine rl.gen rfl rfl fun b hb => ?_
    cases b
    ·have h8 := iteBF h7 hb
     refine rl.done ?_
     refine RW.kp [2, 3, 26] [(2, .ptr 0 0), (3, .ptr 1 0), (26, .bool false)] [some ⟨[L_S x0.Disk.Sectors, L_TWrite x0.Disk.Cache, .j x0.Segs, L_TSeg x0.Used, .j x0.NextGen, .j x0.NextSeq, .j x0.Stamp, .j x0.NextValid], 0⟩, some ⟨[L_S x1.Disk.Sectors, L_TWrite x1.Disk.Cache, .j x1.Segs, L_TSeg x1.Used, .j x1.NextGen, .j x1.NextSeq, .j x1.Stamp, .j x1.NextValid], 0⟩] rfl rfl ?_
     refine RW.cond_f rfl (RW.skip (RW.seq (RW.sreg (rl.run 4 rfl ?_))))
     refine rl.gen rfl rfl fun b hb => ?_
     cases b
     ·have h9 := iteBF h8 hb
      refine rl.done (RW.cond_f rfl (RW.skip (RW.seq (RW.sreg (rl.run 4 rfl ?_)))))
      refine rl.gen rfl rfl fun b hb => ?_
      cases b
      ·have h10 := iteBF h9 hb
       refine rl.done (RW.cond_f rfl (RW.skip (RW.seq (RW.sreg (rl.run 4 rfl ?_)))))
       refine rl.gen rfl rfl fun b hb => ?_
       cases b
       ·have h11 := iteBF h10 hb
        refine rl.done ?_
        refine RW.kp [41] [(41, .bool false)] [some ⟨[L_S x0.Disk.Sectors, L_TWrite x0.Disk.Cache, .j x0.Segs, L_TSeg x0.Used, .j x0.NextGen, .j x0.NextSeq, .j x0.Stamp, .j x0.NextValid], 0⟩, some ⟨[L_S x1.Disk.Sectors, L_TWrite x1.Disk.Cache, .j x1.Segs, L_TSeg x1.Used, .j x1.NextGen, .j x1.NextSeq, .j x1.Stamp, .j x1.NextValid], 0⟩] rfl rfl ?_
        refine RW.cond_f rfl (RW.skip (RW.sreg (rl.run 1 rfl (rl.done (RW.ret ?_)))))
        cases h11
        exact RRet.mk rfl .bool (by first | decide | simp)
       ·have h12 := iteBT h10 hb
        refine rl.done ?_
        refine RW.kp [41] [(41, .bool true)] [some ⟨[L_S x0.Disk.Sectors, L_TWrite x0.Disk.Cache, .j x0.Segs, L_TSeg x0.Used, .j x0.NextGen, .j x0.NextSeq, .j x0.Stamp, .j x0.NextValid], 0⟩, some ⟨[L_S x1.Disk.Sectors, L_TWrite x1.Disk.Cache, .j x1.Segs, L_TSeg x1.Used, .j x1.NextGen, .j x1.NextSeq, .j x1.Stamp, .j x1.NextValid], 0⟩] rfl rfl ?_
        refine RW.cond_t rfl (RW.sreg (rl.run 1 rfl (rl.done (RW.ret ?_))))
        cases h12
        exact RRet.mk rfl .bool (by first | decide | simp)
      ·have h13 := iteBT h9 hb
       refine rl.done (RW.cond_t rfl (RW.sreg (rl.run 1 rfl (rl.done ?_))))
       refine RW.kp [4] [(4, .bool false)] [some ⟨[L_S x0.Disk.Sectors, L_TWrite x0.Disk.Cache, .j x0.Segs, L_TSeg x0.Used, .j x0.NextGen, .j x0.NextSeq, .j x0.Stamp, .j x0.NextValid], 0⟩, some ⟨[L_S x1.Disk.Sectors, L_TWrite x1.Disk.Cache, .j x1.Segs, L_TSeg x1.Used, .j x1.NextGen, .j x1.NextSeq, .j x1.Stamp, .j x1.NextValid], 0⟩] rfl rfl ?_
       refine RW.ret ?_
       cases h13
       exact RRet.mk rfl .bool (by first | decide | simp)
     ·have h14 := iteBT h8 hb
      refine rl.done (RW.cond_t rfl (RW.sreg (rl.run 1 rfl (rl.done (RW.ret ?_)))))
      cases h14
      exact RRet.mk rfl .bool (by first | decide | simp)
    ·have h15 := iteBT h7 hb
     refine rl.done ?_
     refine RW.kp [2, 3, 26] [(2, .ptr 0 0), (3, .ptr 1 0), (26, .bool true)] [some ⟨[L_S x0.Disk.Sectors, L_TWrite x0.Disk.Cache, .j x0.Segs, L_TSeg x0.Used, .j x0.NextGen, .j x0.NextSeq, .j x0.Stamp, .j x0.NextValid], 0⟩, some ⟨[L_S x1.Disk.Sectors, L_TWrite x1.Disk.Cache, .j x1.Segs, L_TSeg x1.Used, .j x1.NextGen, .j x1.NextSeq, .j x1.Stamp, .j x1.NextValid], 0⟩] rfl rfl ?_
     refine RW.cond_t rfl (RW.sreg (rl.run 1 rfl (rl.done (RW.ret ?_))))
     cases h15
     exact RRet.mk rfl .bool (by first | decide | simp)
  ·have h16 := iteBT h3 hb
   refine rl.done ?_
   refine RW.kp [2, 3, 15] [(2, .ptr 0 0), (3, .ptr 1 0), (15, .bool true)] [some ⟨[L_S x0.Disk.Sectors, L_TWrite x0.Disk.Cache, .j x0.Segs, L_TSeg x0.Used, .j x0.NextGen, .j x0.NextSeq, .j x0.Stamp, .j x0.NextValid], 0⟩, some ⟨[L_S x1.Disk.Sectors, L_TWrite x1.Disk.Cache, .j x1.Segs, L_TSeg x1.Used, .j x1.NextGen, .j x1.NextSeq, .j x1.Stamp, .j x1.NextValid], 0⟩] rfl rfl ?_
   refine RW.cond_t rfl (RW.sreg (rl.run 1 rfl (rl.done (RW.ret ?_))))
   cases h16
   exact RRet.mk rfl .bool (by first | decide | simp)
theorem law_laws_eqStore {x0 : TStore} {x1 : TStore} {r : Bool} (hF : F_laws_eqStore x0 x1 = some r) : PCalls Tryz.prog 14 [.agg (enc_TStore false x0), .agg (enc_TStore false x1)] (.bool r) := by
 refine PCalls.of_r k_laws_eqStore rfl ?_
 unfold F_laws_eqStore at hF
 refine RW.sreg (rl.run 3 rfl (rl.done (RW.seq (RW.sreg (rl.run 4 rfl ?_)))))
 obtain ⟨v1, e1, h1⟩ := bindS hF
 refine rl.call rfl rfl rfl (CallW.val (r' := .bool v1) ok_laws_eqLog (law_laws_eqLog e1) (.cons (DFL.agg (.cons (.lst ekS) (.cons (.lst ek_TWrite) (.cons .int (.cons (.lst ek_TSeg) (.cons .int (.cons .int (.cons .int (.cons .int .nil))))))))) (.cons (DFL.agg (.cons (.lst ekS) (.cons (.lst ek_TWrite) (.cons .int (.cons (.lst ek_TSeg) (.cons .int (.cons .int (.cons .int (.cons .int .nil))))))))) .nil)) .refl ?_)
 cases hb : v1
 ·have h2 := iteBF h1 hb
  refine rl.run 1 rfl (rl.done (RW.cond_t rfl (RW.sreg (rl.run 1 rfl (rl.done (RW.ret ?_))))))
  cases h2
  exact RRet.mk rfl .bool (by first | decide | simp)
 ·have h3 := iteBT h1 hb
  refine rl.run 1 rfl (rl.done (RW.cond_f rfl (RW.skip (RW.seq (RW.sreg (rl.run 4 rfl ?_))))))
  obtain ⟨v2, e2, h4⟩ := bindS h3
  refine rl.call rfl rfl rfl (CallW.val (r' := .bool v2) ok_laws_eqIntS (law_laws_eqIntS e2) (.cons (.lst ekI) (.cons (.lst ekI) .nil)) .refl ?_)
  cases hb : v2
  ·have h5 := iteBF h4 hb
   refine rl.run 1 rfl (rl.done ?_)
   refine RW.kp [16] [(16, .bool true)] [some ⟨[L_S x0.Log.Disk.Sectors, L_TWrite x0.Log.Disk.Cache, .j x0.Log.Segs, L_TSeg x0.Log.Used, .j x0.Log.NextGen, .j x0.Log.NextSeq, .j x0.Log.Stamp, .j x0.Log.NextValid, L_I x0.Freed], 0⟩, some ⟨[L_S x1.Log.Disk.Sectors, L_TWrite x1.Log.Disk.Cache, .j x1.Log.Segs, L_TSeg x1.Log.Used, .j x1.Log.NextGen, .j x1.Log.NextSeq, .j x1.Log.Stamp, .j x1.Log.NextValid, L_I x1.Freed], 0⟩] rfl rfl ?_
   refine RW.cond_t rfl (RW.sreg (rl.run 1 rfl (rl.done (RW.ret ?_))))
   cases h5
   exact RRet.mk rfl .bool (by first | decide | simp)
  ·have h6 := iteBT h4 hb
   refine rl.run 1 rfl (rl.done ?_)
   refine RW.kp [16] [(16, .bool false)] [some ⟨[L_S x0.Log.Disk.Sectors, L_TWrite x0.Log.Disk.Cache, .j x0.Log.Segs, L_TSeg x0.Log.Used, .j x0.Log.NextGen, .j x0.Log.NextSeq, .j x0.Log.Stamp, .j x0.Log.NextValid, L_I x0.Freed], 0⟩, some ⟨[L_S x1.Log.Disk.Sectors, L_TWrite x1.Log.Disk.Cache, .j x1.Log.Segs, L_TSeg x1.Log.Used, .j x1.Log.NextGen, .j x1.Log.NextSeq, .j x1.Log.Stamp, .j x1.Log.NextValid, L_I x1.Freed], 0⟩] rfl rfl ?_
   refine RW.cond_f rfl (RW.skip (RW.sreg (rl.run 1 rfl (rl.done (RW.ret ?_)))))
   cases h6
   exact RRet.mk rfl .bool (by first | decide | simp)
theorem law_laws_szStringS {x0 : List (List UInt8)} {x1 : Int} {r : Int} (hF : F_laws_szStringS x0 x1 = some r) : PCalls Tryz.prog 150 [L_S x0, .j x1] (.j r) := by
 refine PCalls.of_r k_laws_szStringS rfl ?_
 unfold F_laws_szStringS at hF
 refine RW.sreg (rl.run 1 rfl (rl.done (RW.sreg (rl.run 5 rfl (rl.done (RW.seq (RW.sreg (rl.run 1 rfl ?_))))))))
 refine rl.gen rfl rfl fun b hb => ?_
 cases b
 ·have h1 := iteBF hF hb
  refine rl.done (RW.cond_f rfl (RW.skip (RW.seq (RW.sreg (rl.run 1 rfl (rl.done ?_))))))
  obtain ⟨y4, ey4, h3⟩ := bindS h1
  refine RW.cutq (σ := Int) (fun y2 => [(1, .j y2)]) (fun y2 => []) (fun y => y4 = .inr y) (fun _ _ _ _ g h => RW.gh g h) ?_ ?_
  ·refine RW.blk ?_
   refine RW.iter (σ := Int × Int) ey4 (fun s1 => [(0, L_S x0), (1, .j s1.1), (5, .j s1.2)]) (fun s1 => []) (Gh.ren0 [] .nil rfl (.cons rfl (.dat (ekS.rlst)) (.cons rfl (.dat .int) (.cons rfl (.dat .int) .nil)))) (fun s1 B o hS2 hB2 hE2 => ?_)
   unfold S_laws_szStringS_1 at hS2
   refine RW.seq (RW.sreg (rl.run 3 rfl ?_))
   refine rl.gen rfl rfl fun b hb => ?_
   cases b
   ·have h4 := iteBF hS2 hb
    refine rl.done (RW.cond_f rfl (RW.exit (blkA_eq ?_)))
    cases h4
    exact ⟨_, (hE2 _ rfl).symm, (Gh.ren0 [] .nil rfl (.cons rfl (.dat .int) .nil))⟩
   ·have h5 := iteBT hS2 hb
    refine rl.done (RW.cond_t rfl (RW.skip (RW.seq (RW.blk (RW.sreg (rl.run 3 rfl ?_))))))
    obtain ⟨v3, e3, h6⟩ := bindS h5
    refine rl.op (x_ia_lst (enc := encS) (o := false) rfl rfl rfl e3) ?_
    refine rl.op (x_ld_el (off' := 0) ekS rfl e3 rfl rfl rfl) ?_
    refine rl.run 3 rfl (rl.done ?_)
    refine RW.kp [0, 1, 5] [(0, L_S x0), (1, .j (w64 (s1.1 - (v3.length : Int)))), (5, .j s1.2)] [] rfl rfl ?_
    refine RW.sreg (rl.run 1 rfl ?_)
    refine rl.gen rfl rfl fun b hb => ?_
    cases b
    ·have h7 := iteBF h6 hb
     refine rl.done (RW.cond_f rfl (RW.skip (RW.reg (rl.run 3 rfl (rl.done ?_)))))
     cases h7
     exact hB2 _ rfl _ _ (Gh.ren0 [] .nil rfl (.cons rfl (.dat (ekS.rlst)) (.cons rfl (.dat .int) (.cons rfl (.dat .int) .nil))))
    ·have h8 := iteBT h6 hb
     refine rl.done (RW.cond_t rfl (RW.sreg (rl.run 1 rfl (rl.done (RW.ret ?_)))))
     cases h8
     have h9 := elimL h3 (hE2 _ rfl)
     cases h9
     exact RRet.mk rfl .int (by first | decide | simp)
  ·intro y2 hC
   have h3 := elimR h3 hC
   refine RW.sreg (rl.run 2 rfl (rl.done (RW.ret ?_)))
   cases h3
   exact RRet.mk rfl .int (by first | decide | simp)
 ·have h10 := iteBT hF hb
  refine rl.done (RW.cond_t rfl (RW.sreg (rl.run 1 rfl (rl.done (RW.ret ?_)))))
  cases h10
  exact RRet.mk rfl .int (by first | decide | simp)
theorem law_laws_szWrite {x0 : TWrite} {x1 : Int} {r : Int} (hF : F_laws_szWrite x0 x1 = some r) : PCalls Tryz.prog 193 [.agg (enc_TWrite false x0), .j x1] (.j r) := by
 refine PCalls.of_r k_laws_szWrite rfl ?_
 unfold F_laws_szWrite at hF
 refine RW.sreg (rl.run 2 rfl (rl.done (RW.sreg (rl.run 6 rfl (rl.done (RW.seq (RW.sreg (rl.run 1 rfl ?_))))))))
 refine rl.gen rfl rfl fun b hb => ?_
 cases b
 ·have h1 := iteBF hF hb
  refine rl.done (RW.cond_f rfl (RW.skip (RW.sreg (rl.run 2 rfl (rl.done ?_)))))
  refine RW.kp [4] [(4, .j (w64 (x1 - (x0.Text.length : Int))))] [some ⟨[.j x0.At, .str x0.Text], 0⟩] rfl rfl ?_
  refine RW.ret ?_
  cases h1
  exact RRet.mk rfl .int (by first | decide | simp)
 ·have h2 := iteBT hF hb
  refine rl.done (RW.cond_t rfl (RW.sreg (rl.run 1 rfl (rl.done (RW.ret ?_)))))
  cases h2
  exact RRet.mk rfl .int (by first | decide | simp)
theorem law_laws_szWriteS {x0 : List TWrite} {x1 : Int} {r : Int} (hF : F_laws_szWriteS x0 x1 = some r) : PCalls Tryz.prog 151 [L_TWrite x0, .j x1] (.j r) := by
 refine PCalls.of_r k_laws_szWriteS rfl ?_
 unfold F_laws_szWriteS at hF
 refine RW.sreg (rl.run 1 rfl (rl.done (RW.sreg (rl.run 5 rfl (rl.done (RW.seq (RW.sreg (rl.run 1 rfl ?_))))))))
 refine rl.gen rfl rfl fun b hb => ?_
 cases b
 ·have h1 := iteBF hF hb
  refine rl.done (RW.cond_f rfl (RW.skip (RW.seq (RW.sreg (rl.run 1 rfl (rl.done ?_))))))
  obtain ⟨y5, ey5, h3⟩ := bindS h1
  refine RW.cutq (σ := Int) (fun y2 => [(1, .j y2)]) (fun y2 => []) (fun y => y5 = .inr y) (fun _ _ _ _ g h => RW.gh g h) ?_ ?_
  ·refine RW.blk ?_
   refine RW.iter (σ := Int × Int) ey5 (fun s1 => [(0, L_TWrite x0), (1, .j s1.1), (5, .j s1.2)]) (fun s1 => []) (Gh.ren0 [] .nil rfl (.cons rfl (.dat (ek_TWrite.rlst)) (.cons rfl (.dat .int) (.cons rfl (.dat .int) .nil)))) (fun s1 B o hS2 hB2 hE2 => ?_)
   unfold S_laws_szWriteS_1 at hS2
   refine RW.seq (RW.sreg (rl.run 3 rfl ?_))
   refine rl.gen rfl rfl fun b hb => ?_
   cases b
   ·have h4 := iteBF hS2 hb
    refine rl.done (RW.cond_f rfl (RW.exit (blkA_eq ?_)))
    cases h4
    exact ⟨_, (hE2 _ rfl).symm, (Gh.ren0 [] .nil rfl (.cons rfl (.dat .int) .nil))⟩
   ·have h5 := iteBT hS2 hb
    refine rl.done (RW.cond_t rfl (RW.skip (RW.seq (RW.blk (RW.sreg (rl.run 2 rfl ?_))))))
    obtain ⟨v3, e3, h6⟩ := bindS h5
    refine rl.op (x_ia_lst (enc := enc_TWrite) (o := false) rfl rfl rfl e3) ?_
    refine rl.op (x_ld_ela (off' := 0) (vs := (enc_TWrite false v3)) ek_TWrite rfl e3 rfl rfl rfl) ?_
    refine rl.run 1 rfl ?_
    obtain ⟨v4, e4, h7⟩ := bindS h6
    refine rl.call rfl rfl rfl (CallW.val (r' := .j v4) ok_laws_szWrite (law_laws_szWrite e4) (.cons (.dat (.agg (ek_TWrite.dat false _))) (.cons .int .nil)) .refl ?_)
    refine rl.run 1 rfl (rl.done (RW.sreg (rl.run 1 rfl ?_)))
    refine rl.gen rfl rfl fun b hb => ?_
    cases b
    ·have h8 := iteBF h7 hb
     refine rl.done ?_
     refine RW.kp [0, 1, 5, 25] [(0, L_TWrite x0), (1, .j v4), (5, .j s1.2), (25, .bool false)] [] rfl rfl ?_
     refine RW.cond_f rfl (RW.skip (RW.reg (rl.run 3 rfl (rl.done ?_))))
     cases h8
     exact hB2 _ rfl _ _ (Gh.ren0 [] .nil rfl (.cons rfl (.dat (ek_TWrite.rlst)) (.cons rfl (.dat .int) (.cons rfl (.dat .int) .nil))))
    ·have h9 := iteBT h7 hb
     refine rl.done ?_
     refine RW.kp [0, 1, 5, 25] [(0, L_TWrite x0), (1, .j v4), (5, .j s1.2), (25, .bool true)] [] rfl rfl ?_
     refine RW.cond_t rfl (RW.sreg (rl.run 1 rfl (rl.done (RW.ret ?_))))
     cases h9
     have h10 := elimL h3 (hE2 _ rfl)
     cases h10
     exact RRet.mk rfl .int (by first | decide | simp)
  ·intro y2 hC
   have h3 := elimR h3 hC
   refine RW.sreg (rl.run 2 rfl (rl.done (RW.ret ?_)))
   cases h3
   exact RRet.mk rfl .int (by first | decide | simp)
 ·have h11 := iteBT hF hb
  refine rl.done (RW.cond_t rfl (RW.sreg (rl.run 1 rfl (rl.done (RW.ret ?_)))))
  cases h11
  exact RRet.mk rfl .int (by first | decide | simp)
theorem law_laws_szDisk {x0 : TDisk} {x1 : Int} {r : Int} (hF : F_laws_szDisk x0 x1 = some r) : PCalls Tryz.prog 91 [.agg (enc_TDisk false x0), .j x1] (.j r) := by
 refine PCalls.of_r k_laws_szDisk rfl ?_
 unfold F_laws_szDisk at hF
 refine RW.sreg (rl.run 2 rfl (rl.done (RW.sreg (rl.run 3 rfl ?_))))
 obtain ⟨v1, e1, h1⟩ := bindS hF
 refine rl.call rfl rfl rfl (CallW.val (r' := .j v1) ok_laws_szStringS (law_laws_szStringS e1) (.cons (.lst ekS) (.cons .int .nil)) .refl ?_)
 refine rl.run 1 rfl (rl.done (RW.seq (RW.sreg (rl.run 1 rfl ?_))))
 refine rl.gen rfl rfl fun b hb => ?_
 cases b
 ·have h2 := iteBF h1 hb
  refine rl.done (RW.cond_f rfl (RW.skip (RW.sreg (rl.run 3 rfl ?_))))
  obtain ⟨v2, e2, h3⟩ := bindS h2
  refine rl.call rfl rfl rfl (CallW.val (r' := .j v2) ok_laws_szWriteS (law_laws_szWriteS e2) (.cons (.lst ek_TWrite) (.cons .int .nil)) .refl ?_)
  refine rl.run 1 rfl (rl.done ?_)
  refine RW.kp [1] [(1, .j v2)] [some ⟨[L_S x0.Sectors, L_TWrite x0.Cache], 0⟩] rfl rfl ?_
  refine RW.seq (RW.sreg (rl.run 1 rfl ?_))
  refine rl.gen rfl rfl fun b hb => ?_
  cases b
  ·have h4 := iteBF h3 hb
   refine rl.done (RW.cond_f rfl (RW.skip (RW.sreg (rl.run 2 rfl (rl.done (RW.ret ?_))))))
   cases h4
   exact RRet.mk rfl .int (by first | decide | simp)
  ·have h5 := iteBT h3 hb
   refine rl.done (RW.cond_t rfl (RW.sreg (rl.run 1 rfl (rl.done (RW.ret ?_)))))
   cases h5
   exact RRet.mk rfl .int (by first | decide | simp)
 ·have h6 := iteBT h1 hb
  refine rl.done (RW.cond_t rfl (RW.sreg (rl.run 1 rfl (rl.done (RW.ret ?_)))))
  cases h6
  exact RRet.mk rfl .int (by first | decide | simp)
theorem law_laws_szRec {x0 : TRec} {x1 : Int} {r : Int} (hF : F_laws_szRec x0 x1 = some r) : PCalls Tryz.prog 24 [.agg (enc_TRec false x0), .j x1] (.j r) := by
 refine PCalls.of_r k_laws_szRec rfl ?_
 unfold F_laws_szRec at hF
 refine RW.sreg (rl.run 2 rfl (rl.done (RW.sreg (rl.run 6 rfl (rl.done (RW.seq (RW.sreg (rl.run 1 rfl ?_))))))))
 refine rl.gen rfl rfl fun b hb => ?_
 cases b
 ·have h1 := iteBF hF hb
  refine rl.done (RW.cond_f rfl (RW.skip (RW.sreg (rl.run 6 rfl (rl.done ?_)))))
  refine RW.kp [1, 2] [(1, .j (w64 ((w64 (x1 - (x0.User.length : Int))) - (x0.Name.length : Int)))), (2, .ptr 0 0)] [some ⟨[.j x0.Kind, .j x0.Valid, .j x0.Uid, .j x0.Next, .j x0.Flags, .str x0.User, .str x0.Name, .str x0.Text], 0⟩] rfl rfl ?_
  refine RW.seq (RW.sreg (rl.run 1 rfl ?_))
  refine rl.gen rfl rfl fun b hb => ?_
  cases b
  ·have h2 := iteBF h1 hb
   refine rl.done (RW.cond_f rfl (RW.skip (RW.sreg (rl.run 6 rfl (rl.done (RW.seq (RW.sreg (rl.run 1 rfl ?_))))))))
   refine rl.gen rfl rfl fun b hb => ?_
   cases b
   ·have h3 := iteBF h2 hb
    refine rl.done (RW.cond_f rfl (RW.skip (RW.sreg (rl.run 2 rfl (rl.done ?_)))))
    refine RW.kp [4] [(4, .j (w64 ((w64 ((w64 (x1 - (x0.User.length : Int))) - (x0.Name.length : Int))) - (x0.Text.length : Int))))] [some ⟨[.j x0.Kind, .j x0.Valid, .j x0.Uid, .j x0.Next, .j x0.Flags, .str x0.User, .str x0.Name, .str x0.Text], 0⟩] rfl rfl ?_
    refine RW.ret ?_
    cases h3
    exact RRet.mk rfl .int (by first | decide | simp)
   ·have h4 := iteBT h2 hb
    refine rl.done (RW.cond_t rfl (RW.sreg (rl.run 1 rfl (rl.done ?_))))
    refine RW.kp [4] [(4, .j (-1))] [some ⟨[.j x0.Kind, .j x0.Valid, .j x0.Uid, .j x0.Next, .j x0.Flags, .str x0.User, .str x0.Name, .str x0.Text], 0⟩] rfl rfl ?_
    refine RW.ret ?_
    cases h4
    exact RRet.mk rfl .int (by first | decide | simp)
  ·have h5 := iteBT h1 hb
   refine rl.done (RW.cond_t rfl (RW.sreg (rl.run 1 rfl (rl.done (RW.ret ?_)))))
   cases h5
   exact RRet.mk rfl .int (by first | decide | simp)
 ·have h6 := iteBT hF hb
  refine rl.done (RW.cond_t rfl (RW.sreg (rl.run 1 rfl (rl.done (RW.ret ?_)))))
  cases h6
  exact RRet.mk rfl .int (by first | decide | simp)
theorem law_laws_szItem {x0 : TItem} {x1 : Int} {r : Int} (hF : F_laws_szItem x0 x1 = some r) : PCalls Tryz.prog 214 [.agg (enc_TItem false x0), .j x1] (.j r) := by
 refine PCalls.of_r k_laws_szItem rfl ?_
 unfold F_laws_szItem at hF
 refine RW.sreg (rl.run 2 rfl (rl.done (RW.sreg (rl.run 3 rfl ?_))))
 obtain ⟨v1, e1, h1⟩ := bindS hF
 refine rl.call rfl rfl rfl (CallW.val (r' := .j v1) ok_laws_szRec (law_laws_szRec e1) (.cons (DFL.agg (.cons .int (.cons .int (.cons .int (.cons .int (.cons .int (.cons .str (.cons .str (.cons .str .nil))))))))) (.cons .int .nil)) .refl ?_)
 refine rl.run 1 rfl (rl.done (RW.seq (RW.sreg (rl.run 1 rfl ?_))))
 refine rl.gen rfl rfl fun b hb => ?_
 cases b
 ·have h2 := iteBF h1 hb
  refine rl.done (RW.cond_f rfl (RW.skip (RW.sreg (rl.run 2 rfl (rl.done (RW.ret ?_))))))
  cases h2
  exact RRet.mk rfl .int (by first | decide | simp)
 ·have h3 := iteBT h1 hb
  refine rl.done (RW.cond_t rfl (RW.sreg (rl.run 1 rfl (rl.done (RW.ret ?_)))))
  cases h3
  exact RRet.mk rfl .int (by first | decide | simp)
theorem law_laws_szItemS {x0 : List TItem} {x1 : Int} {r : Int} (hF : F_laws_szItemS x0 x1 = some r) : PCalls Tryz.prog 194 [L_TItem x0, .j x1] (.j r) := by
 refine PCalls.of_r k_laws_szItemS rfl ?_
 unfold F_laws_szItemS at hF
 refine RW.sreg (rl.run 1 rfl (rl.done (RW.sreg (rl.run 5 rfl (rl.done (RW.seq (RW.sreg (rl.run 1 rfl ?_))))))))
 refine rl.gen rfl rfl fun b hb => ?_
 cases b
 ·have h1 := iteBF hF hb
  refine rl.done (RW.cond_f rfl (RW.skip (RW.seq (RW.sreg (rl.run 1 rfl (rl.done ?_))))))
  obtain ⟨y5, ey5, h3⟩ := bindS h1
  refine RW.cutq (σ := Int) (fun y2 => [(1, .j y2)]) (fun y2 => []) (fun y => y5 = .inr y) (fun _ _ _ _ g h => RW.gh g h) ?_ ?_
  ·refine RW.blk ?_
   refine RW.iter (σ := Int × Int) ey5 (fun s1 => [(0, L_TItem x0), (1, .j s1.1), (5, .j s1.2)]) (fun s1 => []) (Gh.ren0 [] .nil rfl (.cons rfl (.dat (ek_TItem.rlst)) (.cons rfl (.dat .int) (.cons rfl (.dat .int) .nil)))) (fun s1 B o hS2 hB2 hE2 => ?_)
   unfold S_laws_szItemS_1 at hS2
   refine RW.seq (RW.sreg (rl.run 3 rfl ?_))
   refine rl.gen rfl rfl fun b hb => ?_
   cases b
   ·have h4 := iteBF hS2 hb
    refine rl.done (RW.cond_f rfl (RW.exit (blkA_eq ?_)))
    cases h4
    exact ⟨_, (hE2 _ rfl).symm, (Gh.ren0 [] .nil rfl (.cons rfl (.dat .int) .nil))⟩
   ·have h5 := iteBT hS2 hb
    refine rl.done (RW.cond_t rfl (RW.skip (RW.seq (RW.blk (RW.sreg (rl.run 2 rfl ?_))))))
    obtain ⟨v3, e3, h6⟩ := bindS h5
    refine rl.op (x_ia_lst (enc := enc_TItem) (o := false) rfl rfl rfl e3) ?_
    refine rl.op (x_ld_ela (off' := 0) (vs := (enc_TItem false v3)) ek_TItem rfl e3 rfl rfl rfl) ?_
    refine rl.run 1 rfl ?_
    obtain ⟨v4, e4, h7⟩ := bindS h6
    refine rl.call rfl rfl rfl (CallW.val (r' := .j v4) ok_laws_szItem (law_laws_szItem e4) (.cons (.dat (.agg (ek_TItem.dat false _))) (.cons .int .nil)) .refl ?_)
    refine rl.run 1 rfl (rl.done (RW.sreg (rl.run 1 rfl ?_)))
    refine rl.gen rfl rfl fun b hb => ?_
    cases b
    ·have h8 := iteBF h7 hb
     refine rl.done ?_
     refine RW.kp [0, 1, 5, 25] [(0, L_TItem x0), (1, .j v4), (5, .j s1.2), (25, .bool false)] [] rfl rfl ?_
     refine RW.cond_f rfl (RW.skip (RW.reg (rl.run 3 rfl (rl.done ?_))))
     cases h8
     exact hB2 _ rfl _ _ (Gh.ren0 [] .nil rfl (.cons rfl (.dat (ek_TItem.rlst)) (.cons rfl (.dat .int) (.cons rfl (.dat .int) .nil))))
    ·have h9 := iteBT h7 hb
     refine rl.done ?_
     refine RW.kp [0, 1, 5, 25] [(0, L_TItem x0), (1, .j v4), (5, .j s1.2), (25, .bool true)] [] rfl rfl ?_
     refine RW.cond_t rfl (RW.sreg (rl.run 1 rfl (rl.done (RW.ret ?_))))
     cases h9
     have h10 := elimL h3 (hE2 _ rfl)
     cases h10
     exact RRet.mk rfl .int (by first | decide | simp)
  ·intro y2 hC
   have h3 := elimR h3 hC
   refine RW.sreg (rl.run 2 rfl (rl.done (RW.ret ?_)))
   cases h3
   exact RRet.mk rfl .int (by first | decide | simp)
 ·have h11 := iteBT hF hb
  refine rl.done (RW.cond_t rfl (RW.sreg (rl.run 1 rfl (rl.done (RW.ret ?_)))))
  cases h11
  exact RRet.mk rfl .int (by first | decide | simp)
theorem law_laws_szSeg {x0 : TSeg} {x1 : Int} {r : Int} (hF : F_laws_szSeg x0 x1 = some r) : PCalls Tryz.prog 152 [.agg (enc_TSeg false x0), .j x1] (.j r) := by
 refine PCalls.of_r k_laws_szSeg rfl ?_
 unfold F_laws_szSeg at hF
 refine RW.sreg (rl.run 2 rfl (rl.done (RW.sreg (rl.run 3 rfl ?_))))
 obtain ⟨v1, e1, h1⟩ := bindS hF
 refine rl.call rfl rfl rfl (CallW.val (r' := .j v1) ok_laws_szItemS (law_laws_szItemS e1) (.cons (.lst ek_TItem) (.cons .int .nil)) .refl ?_)
 refine rl.run 1 rfl (rl.done (RW.seq (RW.sreg (rl.run 1 rfl ?_))))
 refine rl.gen rfl rfl fun b hb => ?_
 cases b
 ·have h2 := iteBF h1 hb
  refine rl.done (RW.cond_f rfl (RW.skip (RW.sreg (rl.run 2 rfl (rl.done (RW.ret ?_))))))
  cases h2
  exact RRet.mk rfl .int (by first | decide | simp)
 ·have h3 := iteBT h1 hb
  refine rl.done (RW.cond_t rfl (RW.sreg (rl.run 1 rfl (rl.done (RW.ret ?_)))))
  cases h3
  exact RRet.mk rfl .int (by first | decide | simp)
theorem law_laws_szSegS {x0 : List TSeg} {x1 : Int} {r : Int} (hF : F_laws_szSegS x0 x1 = some r) : PCalls Tryz.prog 92 [L_TSeg x0, .j x1] (.j r) := by
 refine PCalls.of_r k_laws_szSegS rfl ?_
 unfold F_laws_szSegS at hF
 refine RW.sreg (rl.run 1 rfl (rl.done (RW.sreg (rl.run 5 rfl (rl.done (RW.seq (RW.sreg (rl.run 1 rfl ?_))))))))
 refine rl.gen rfl rfl fun b hb => ?_
 cases b
 ·have h1 := iteBF hF hb
  refine rl.done (RW.cond_f rfl (RW.skip (RW.seq (RW.sreg (rl.run 1 rfl (rl.done ?_))))))
  obtain ⟨y5, ey5, h3⟩ := bindS h1
  refine RW.cutq (σ := Int) (fun y2 => [(1, .j y2)]) (fun y2 => []) (fun y => y5 = .inr y) (fun _ _ _ _ g h => RW.gh g h) ?_ ?_
  ·refine RW.blk ?_
   refine RW.iter (σ := Int × Int) ey5 (fun s1 => [(0, L_TSeg x0), (1, .j s1.1), (5, .j s1.2)]) (fun s1 => []) (Gh.ren0 [] .nil rfl (.cons rfl (.dat (ek_TSeg.rlst)) (.cons rfl (.dat .int) (.cons rfl (.dat .int) .nil)))) (fun s1 B o hS2 hB2 hE2 => ?_)
   unfold S_laws_szSegS_1 at hS2
   refine RW.seq (RW.sreg (rl.run 3 rfl ?_))
   refine rl.gen rfl rfl fun b hb => ?_
   cases b
   ·have h4 := iteBF hS2 hb
    refine rl.done (RW.cond_f rfl (RW.exit (blkA_eq ?_)))
    cases h4
    exact ⟨_, (hE2 _ rfl).symm, (Gh.ren0 [] .nil rfl (.cons rfl (.dat .int) .nil))⟩
   ·have h5 := iteBT hS2 hb
    refine rl.done (RW.cond_t rfl (RW.skip (RW.seq (RW.blk (RW.sreg (rl.run 2 rfl ?_))))))
    obtain ⟨v3, e3, h6⟩ := bindS h5
    refine rl.op (x_ia_lst (enc := enc_TSeg) (o := false) rfl rfl rfl e3) ?_
    refine rl.op (x_ld_ela (off' := 0) (vs := (enc_TSeg false v3)) ek_TSeg rfl e3 rfl rfl rfl) ?_
    refine rl.run 1 rfl ?_
    obtain ⟨v4, e4, h7⟩ := bindS h6
    refine rl.call rfl rfl rfl (CallW.val (r' := .j v4) ok_laws_szSeg (law_laws_szSeg e4) (.cons (.dat (.agg (ek_TSeg.dat false _))) (.cons .int .nil)) .refl ?_)
    refine rl.run 1 rfl (rl.done (RW.sreg (rl.run 1 rfl ?_)))
    refine rl.gen rfl rfl fun b hb => ?_
    cases b
    ·have h8 := iteBF h7 hb
     refine rl.done ?_
     refine RW.kp [0, 1, 5, 25] [(0, L_TSeg x0), (1, .j v4), (5, .j s1.2), (25, .bool false)] [] rfl rfl ?_
     refine RW.cond_f rfl (RW.skip (RW.reg (rl.run 3 rfl (rl.done ?_))))
     cases h8
     exact hB2 _ rfl _ _ (Gh.ren0 [] .nil rfl (.cons rfl (.dat (ek_TSeg.rlst)) (.cons rfl (.dat .int) (.cons rfl (.dat .int) .nil))))
    ·have h9 := iteBT h7 hb
     refine rl.done ?_
     refine RW.kp [0, 1, 5, 25] [(0, L_TSeg x0), (1, .j v4), (5, .j s1.2), (25, .bool true)] [] rfl rfl ?_
     refine RW.cond_t rfl (RW.sreg (rl.run 1 rfl (rl.done (RW.ret ?_))))
     cases h9
     have h10 := elimL h3 (hE2 _ rfl)
     cases h10
     exact RRet.mk rfl .int (by first | decide | simp)
  ·intro y2 hC
   have h3 := elimR h3 hC
   refine RW.sreg (rl.run 2 rfl (rl.done (RW.ret ?_)))
   cases h3
   exact RRet.mk rfl .int (by first | decide | simp)
 ·have h11 := iteBT hF hb
  refine rl.done (RW.cond_t rfl (RW.sreg (rl.run 1 rfl (rl.done (RW.ret ?_)))))
  cases h11
  exact RRet.mk rfl .int (by first | decide | simp)
theorem law_laws_szLog {x0 : TLog} {x1 : Int} {r : Int} (hF : F_laws_szLog x0 x1 = some r) : PCalls Tryz.prog 47 [.agg (enc_TLog false x0), .j x1] (.j r) := by
 refine PCalls.of_r k_laws_szLog rfl ?_
 unfold F_laws_szLog at hF
 refine RW.sreg (rl.run 2 rfl (rl.done (RW.sreg (rl.run 3 rfl ?_))))
 obtain ⟨v1, e1, h1⟩ := bindS hF
 refine rl.call rfl rfl rfl (CallW.val (r' := .j v1) ok_laws_szDisk (law_laws_szDisk e1) (.cons (DFL.agg (.cons (.lst ekS) (.cons (.lst ek_TWrite) .nil))) (.cons .int .nil)) .refl ?_)
 refine rl.run 1 rfl (rl.done (RW.seq (RW.sreg (rl.run 1 rfl ?_))))
 refine rl.gen rfl rfl fun b hb => ?_
 cases b
 ·have h2 := iteBF h1 hb
  refine rl.done (RW.cond_f rfl (RW.skip (RW.sreg (rl.run 3 rfl ?_))))
  obtain ⟨v2, e2, h3⟩ := bindS h2
  refine rl.call rfl rfl rfl (CallW.val (r' := .j v2) ok_laws_szSegS (law_laws_szSegS e2) (.cons (.lst ek_TSeg) (.cons .int .nil)) .refl ?_)
  refine rl.run 1 rfl (rl.done ?_)
  refine RW.kp [1] [(1, .j v2)] [some ⟨[L_S x0.Disk.Sectors, L_TWrite x0.Disk.Cache, .j x0.Segs, L_TSeg x0.Used, .j x0.NextGen, .j x0.NextSeq, .j x0.Stamp, .j x0.NextValid], 0⟩] rfl rfl ?_
  refine RW.seq (RW.sreg (rl.run 1 rfl ?_))
  refine rl.gen rfl rfl fun b hb => ?_
  cases b
  ·have h4 := iteBF h3 hb
   refine rl.done (RW.cond_f rfl (RW.skip (RW.sreg (rl.run 2 rfl (rl.done (RW.ret ?_))))))
   cases h4
   exact RRet.mk rfl .int (by first | decide | simp)
  ·have h5 := iteBT h3 hb
   refine rl.done (RW.cond_t rfl (RW.sreg (rl.run 1 rfl (rl.done (RW.ret ?_)))))
   cases h5
   exact RRet.mk rfl .int (by first | decide | simp)
 ·have h6 := iteBT h1 hb
  refine rl.done (RW.cond_t rfl (RW.sreg (rl.run 1 rfl (rl.done (RW.ret ?_)))))
  cases h6
  exact RRet.mk rfl .int (by first | decide | simp)
theorem law_laws_szIntS {x0 : List Int} {x1 : Int} {r : Int} (hF : F_laws_szIntS x0 x1 = some r) : PCalls Tryz.prog 48 [L_I x0, .j x1] (.j r) := by
 refine PCalls.of_r k_laws_szIntS rfl ?_
 unfold F_laws_szIntS at hF
 refine RW.sreg (rl.run 1 rfl (rl.done (RW.sreg (rl.run 5 rfl (rl.done (RW.seq (RW.sreg (rl.run 1 rfl ?_))))))))
 refine rl.gen rfl rfl fun b hb => ?_
 cases b
 ·have h1 := iteBF hF hb
  refine rl.done (RW.cond_f rfl (RW.skip (RW.sreg (rl.run 2 rfl (rl.done (RW.ret ?_))))))
  cases h1
  exact RRet.mk rfl .int (by first | decide | simp)
 ·have h2 := iteBT hF hb
  refine rl.done (RW.cond_t rfl (RW.sreg (rl.run 1 rfl (rl.done (RW.ret ?_)))))
  cases h2
  exact RRet.mk rfl .int (by first | decide | simp)
theorem law_laws_szStore {x0 : TStore} {x1 : Int} {r : Int} (hF : F_laws_szStore x0 x1 = some r) : PCalls Tryz.prog 17 [.agg (enc_TStore false x0), .j x1] (.j r) := by
 refine PCalls.of_r k_laws_szStore rfl ?_
 unfold F_laws_szStore at hF
 refine RW.sreg (rl.run 2 rfl (rl.done (RW.sreg (rl.run 3 rfl ?_))))
 obtain ⟨v1, e1, h1⟩ := bindS hF
 refine rl.call rfl rfl rfl (CallW.val (r' := .j v1) ok_laws_szLog (law_laws_szLog e1) (.cons (DFL.agg (.cons (.lst ekS) (.cons (.lst ek_TWrite) (.cons .int (.cons (.lst ek_TSeg) (.cons .int (.cons .int (.cons .int (.cons .int .nil))))))))) (.cons .int .nil)) .refl ?_)
 refine rl.run 1 rfl (rl.done (RW.seq (RW.sreg (rl.run 1 rfl ?_))))
 refine rl.gen rfl rfl fun b hb => ?_
 cases b
 ·have h2 := iteBF h1 hb
  refine rl.done (RW.cond_f rfl (RW.skip (RW.sreg (rl.run 3 rfl ?_))))
  obtain ⟨v2, e2, h3⟩ := bindS h2
  refine rl.call rfl rfl rfl (CallW.val (r' := .j v2) ok_laws_szIntS (law_laws_szIntS e2) (.cons (.lst ekI) (.cons .int .nil)) .refl ?_)
  refine rl.run 1 rfl (rl.done ?_)
  refine RW.kp [1] [(1, .j v2)] [some ⟨[L_S x0.Log.Disk.Sectors, L_TWrite x0.Log.Disk.Cache, .j x0.Log.Segs, L_TSeg x0.Log.Used, .j x0.Log.NextGen, .j x0.Log.NextSeq, .j x0.Log.Stamp, .j x0.Log.NextValid, L_I x0.Freed], 0⟩] rfl rfl ?_
  refine RW.seq (RW.sreg (rl.run 1 rfl ?_))
  refine rl.gen rfl rfl fun b hb => ?_
  cases b
  ·have h4 := iteBF h3 hb
   refine rl.done (RW.cond_f rfl (RW.skip (RW.sreg (rl.run 2 rfl (rl.done (RW.ret ?_))))))
   cases h4
   exact RRet.mk rfl .int (by first | decide | simp)
  ·have h5 := iteBT h3 hb
   refine rl.done (RW.cond_t rfl (RW.sreg (rl.run 1 rfl (rl.done (RW.ret ?_)))))
   cases h5
   exact RRet.mk rfl .int (by first | decide | simp)
 ·have h6 := iteBT h1 hb
  refine rl.done (RW.cond_t rfl (RW.sreg (rl.run 1 rfl (rl.done (RW.ret ?_)))))
  cases h6
  exact RRet.mk rfl .int (by first | decide | simp)
theorem law_laws_toRec {x0 : TRec} {r : TRec} (hF : F_laws_toRec x0 = some r) : PCalls Tryz.prog 26 [.agg (enc_TRec false x0)] (.agg (enc_TRec true r)) := by
 refine PCalls.of_r k_laws_toRec rfl ?_
 unfold F_laws_toRec at hF
 refine RW.sreg (rl.run 2 rfl (rl.done (RW.sreg (rl.run 1 rfl (rl.done (RW.sreg (rl.run 4 rfl (rl.done (RW.sreg (rl.run 4 rfl (rl.done ?_)))))))))))
 refine RW.sreg (rl.run 4 rfl (rl.done (RW.sreg (rl.run 4 rfl (rl.done ?_)))))
 refine RW.kp [1, 2, 3] [(1, .ptr 0 0), (2, .ptr 1 0), (3, .ptr 2 0)] [some ⟨[.j x0.Kind, .j x0.Valid, .j x0.Uid, .j x0.Next, .j x0.Flags, .str x0.User, .str x0.Name, .str x0.Text], 0⟩, some ⟨[.j 0, .j 0, .j 0, .j 0, .j 0, .str [], .str [], .str []], 0⟩, some ⟨[.j x0.Kind, .j x0.Valid, .j x0.Uid, .j x0.Next, .j 0, .str [], .str [], .str []], 0⟩] rfl rfl ?_
 refine RW.sreg (rl.run 4 rfl (rl.done (RW.sreg (rl.run 4 rfl (rl.done (RW.sreg (rl.run 4 rfl (rl.done (RW.sreg (rl.run 4 rfl (rl.done ?_)))))))))))
 refine RW.kp [2, 3] [(2, .ptr 1 0), (3, .ptr 2 0)] [some ⟨[.j x0.Kind, .j x0.Valid, .j x0.Uid, .j x0.Next, .j x0.Flags, .str x0.User, .str x0.Name, .str x0.Text], 0⟩, some ⟨[.j 0, .j 0, .j 0, .j 0, .j 0, .str [], .str [], .str []], 0⟩, some ⟨[.j x0.Kind, .j x0.Valid, .j x0.Uid, .j x0.Next, .j x0.Flags, .str x0.User, .str x0.Name, .str x0.Text], 0⟩] rfl rfl ?_
 refine RW.sreg (rl.run 2 rfl (rl.done (RW.ret ?_)))
 cases hF
 exact RRet.mk rfl (OutL.agg (.cons .int rfl (.cons .int rfl (.cons .int rfl (.cons .int rfl (.cons .int rfl (.cons .str rfl (.cons .str rfl (.cons .str rfl .nil))))))))) (by first | decide | simp)
theorem law_laws_toItem {x0 : TItem} {r : TItem} (hF : F_laws_toItem x0 = some r) : PCalls Tryz.prog 215 [.agg (enc_TItem false x0)] (.agg (enc_TItem true r)) := by
 refine PCalls.of_r k_laws_toItem rfl ?_
 unfold F_laws_toItem at hF
 refine RW.sreg (rl.run 2 rfl (rl.done (RW.sreg (rl.run 1 rfl (rl.done (RW.sreg (rl.run 4 rfl (rl.done (RW.sreg (rl.run 2 rfl ?_))))))))))
 obtain ⟨v1, e1, h1⟩ := bindS hF
 refine rl.call rfl rfl rfl (CallW.val (r' := .agg (enc_TRec false v1)) ok_laws_toRec (law_laws_toRec e1) (.cons (DFL.agg (.cons .int (.cons .int (.cons .int (.cons .int (.cons .int (.cons .str (.cons .str (.cons .str .nil))))))))) .nil) .refl ?_)
 refine rl.run 2 rfl (rl.done (RW.sreg (rl.run 2 rfl (rl.done ?_))))
 refine RW.kp [2] [(2, .ptr 1 0)] [some ⟨[.j x0.Seq, .j x0.Rec.Kind, .j x0.Rec.Valid, .j x0.Rec.Uid, .j x0.Rec.Next, .j x0.Rec.Flags, .str x0.Rec.User, .str x0.Rec.Name, .str x0.Rec.Text], 0⟩, some ⟨[.j x0.Seq, .j v1.Kind, .j v1.Valid, .j v1.Uid, .j v1.Next, .j v1.Flags, .str v1.User, .str v1.Name, .str v1.Text], 0⟩, some ⟨[.j x0.Seq, .j v1.Kind, .j v1.Valid, .j v1.Uid, .j v1.Next, .j v1.Flags, .str v1.User, .str v1.Name, .str v1.Text], 0⟩] rfl rfl ?_
 refine RW.ret ?_
 cases h1
 exact RRet.mk rfl (OutL.agg (.cons .int rfl (.cons .int rfl (.cons .int rfl (.cons .int rfl (.cons .int rfl (.cons .int rfl (.cons .str rfl (.cons .str rfl (.cons .str rfl .nil)))))))))) (by first | decide | simp)
theorem law_laws_toItemS {x0 : List TItem} {r : List TItem} (hF : F_laws_toItemS x0 = some r) : PCalls Tryz.prog 197 [L_TItem x0] (.lst true 9 (fl (enc_TItem true) r) r.length) := by
 refine PCalls.of_r k_laws_toItemS rfl ?_
 unfold F_laws_toItemS at hF
 refine RW.sreg (rl.run 1 rfl (rl.done (RW.sreg (rl.run 2 rfl ?_))))
 obtain ⟨v1, e1, h1⟩ := bindS hF
 refine rl.op (x_ms ek_TItem rfl rfl e1 rfl) ?_
 refine rl.run 1 rfl (rl.done (RW.seq (RW.sreg (rl.run 1 rfl (rl.done ?_)))))
 obtain ⟨y8, ey8, h3⟩ := bindS h1
 refine RW.cutq (σ := (List TItem)) (fun y3 => [(3, .sl 0 0 y3.length)]) (fun y3 => [some ⟨fl (enc_TItem true) y3, 9⟩]) (fun y => y8 = y) (fun _ _ _ _ g h => RW.gh g h) ?_ ?_
 ·refine RW.blk ?_
  refine RW.iter (σ := Int × (List TItem)) ey8 (fun s2 => [(0, L_TItem x0), (3, .sl 0 0 s2.2.length), (4, .j s2.1)]) (fun s2 => [some ⟨fl (enc_TItem true) s2.2, 9⟩]) (Gh.ren0 [0] (.same rfl (ek_TItem.fref _ _) .nil) rfl (.cons rfl (.dat (ek_TItem.rlst)) (.cons rfl (.slq rfl rfl) (.cons rfl (.dat .int) .nil)))) (fun s2 B o hS2 hB2 hE2 => ?_)
  unfold S_laws_toItemS_1 at hS2
  refine RW.seq (RW.sreg (rl.run 3 rfl ?_))
  refine rl.gen rfl rfl fun b hb => ?_
  cases b
  ·have h4 := iteBF hS2 hb
   refine rl.done (RW.cond_f rfl (RW.exit (blkA_eq ?_)))
   cases h4
   exact ⟨_, (hE2 _ rfl).symm, (Gh.ren0 [0] (.same rfl (ek_TItem.fref _ _) .nil) rfl (.cons rfl (.slq rfl rfl) .nil))⟩
  ·have h5 := iteBT hS2 hb
   refine rl.done (RW.cond_t rfl (RW.skip (RW.seq (RW.blk (RW.reg (rl.run 4 rfl ?_))))))
   obtain ⟨v4, e4, h6⟩ := bindS h5
   refine rl.op (x_ia_lst (enc := enc_TItem) (o := false) rfl rfl rfl e4) ?_
   refine rl.op (x_ld_ela (off' := 0) (vs := (enc_TItem false v4)) ek_TItem rfl e4 rfl rfl rfl) ?_
   obtain ⟨v5, e5, h7⟩ := bindS h6
   refine rl.call rfl rfl rfl (CallW.val (r' := .agg (enc_TItem false v5)) ok_laws_toItem (law_laws_toItem e5) (.cons (.dat (.agg (ek_TItem.dat false _))) .nil) .refl ?_)
   obtain ⟨v6, e6, h8⟩ := bindS h7
   refine rl.op (x_ia_sl rfl rfl rfl rfl e6) ?_
   obtain ⟨v7, e7, h9⟩ := bindS h8
   refine rl.op0 (x_st_sl' (off' := 0) (o := true) (e' := v5) ek_TItem e6 rfl rfl rfl rfl rfl rfl rfl rfl rfl e7) ?_
   refine rl.done (RW.reg (rl.run 3 rfl (rl.done ?_)))
   cases h9
   exact hB2 _ rfl _ _ (Gh.ren0 [0] (.same rfl (ek_TItem.fref _ _) .nil) rfl (.cons rfl (.dat (ek_TItem.rlst)) (.cons rfl (.slq rfl (set'_len e7)) (.cons rfl (.dat .int) .nil))))
 ·intro y3 hC
  subst hC
  refine RW.sreg (rl.run 2 rfl (rl.done (RW.ret ?_)))
  cases h3
  exact RRet.mk rfl (OutR.ownq ek_TItem rfl rfl) (by first | decide | simp)
theorem law_laws_toSeg {x0 : TSeg} {r : TSeg} (hF : F_laws_toSeg x0 = some r) : PCalls Tryz.prog 156 [.agg (enc_TSeg false x0)] (.agg (enc_TSeg true r)) := by
 refine PCalls.of_r k_laws_toSeg rfl ?_
 unfold F_laws_toSeg at hF
 refine RW.sreg (rl.run 2 rfl (rl.done (RW.sreg (rl.run 1 rfl (rl.done (RW.sreg (rl.run 4 rfl (rl.done (RW.sreg (rl.run 4 rfl (rl.done ?_)))))))))))
 refine RW.sreg (rl.run 4 rfl (rl.done (RW.sreg (rl.run 2 rfl ?_))))
 obtain ⟨v1, e1, h1⟩ := bindS hF
 refine rl.call rfl rfl rfl (CallW.own (r' := .sl 3 0 v1.length) (H' := [some ⟨[.j x0.No, .j x0.Gen, .j x0.End, L_TItem x0.Items], 0⟩, some ⟨[.j 0, .j 0, .j 0, .nils], 0⟩, some ⟨[.j x0.No, .j x0.Gen, .j x0.End, .nils], 0⟩, some ⟨fl (enc_TItem true) v1, 9⟩]) ok_laws_toItemS (law_laws_toItemS e1) (.cons (.lst ek_TItem) .nil) (.lst (ek_TItem.fown _)) rfl ?_)
 refine rl.run 2 rfl (rl.done ?_)
 refine RW.kp [2, 3] [(2, .ptr 1 0), (3, .ptr 2 0)] [some ⟨[.j x0.No, .j x0.Gen, .j x0.End, L_TItem x0.Items], 0⟩, some ⟨[.j 0, .j 0, .j 0, .nils], 0⟩, some ⟨[.j x0.No, .j x0.Gen, .j x0.End, .sl 3 0 v1.length], 0⟩, some ⟨fl (enc_TItem true) v1, 9⟩] rfl rfl ?_
 refine RW.sreg (rl.run 2 rfl (rl.done (RW.ret ?_)))
 cases h1
 exact RRet.mk rfl (OutL.agg (.cons .int rfl (.cons .int rfl (.cons .int rfl (.cons (OutR.ownq ek_TItem rfl rfl) rfl .nil))))) (by first | decide | simp)
theorem law_laws_toSegS {x0 : List TSeg} {r : List TSeg} (hF : F_laws_toSegS x0 = some r) : PCalls Tryz.prog 100 [L_TSeg x0] (.lst true 4 (fl (enc_TSeg true) r) r.length) := by
 refine PCalls.of_r k_laws_toSegS rfl ?_
 unfold F_laws_toSegS at hF
 refine RW.sreg (rl.run 1 rfl (rl.done (RW.sreg (rl.run 2 rfl ?_))))
 obtain ⟨v1, e1, h1⟩ := bindS hF
 refine rl.op (x_ms_raw rfl rfl e1) ?_
 refine rl.run 1 rfl (rl.done ?_)
 refine RW.gh (Gh.own0 (b := 0) rfl (NL.rep (.same (.same (.same (.nils (es := 9) .nil)))) _)) ?_
 refine RW.gh (Gh.blk (b := 0) rfl (raw_ms (enc := enc_TSeg) e1)) ?_
 refine RW.kp [0, 3] [(0, L_TSeg x0), (3, .sl 0 0 v1.length)] [some ⟨fl (enc_TSeg true) v1, 4⟩] rfl rfl ?_
 refine RW.seq (RW.sreg (rl.run 1 rfl (rl.done ?_)))
 obtain ⟨y8, ey8, h3⟩ := bindS h1
 refine RW.cutq (σ := (List TSeg)) (fun y3 => [(3, .sl 0 0 y3.length)]) (fun y3 => [some ⟨fl (enc_TSeg true) y3, 4⟩]) (fun y => y8 = y) (fun _ _ _ _ g h => RW.gh g h) ?_ ?_
 ·refine RW.blk ?_
  refine RW.iter (σ := Int × (List TSeg)) ey8 (fun s2 => [(0, L_TSeg x0), (3, .sl 0 0 s2.2.length), (4, .j s2.1)]) (fun s2 => [some ⟨fl (enc_TSeg true) s2.2, 4⟩]) (Gh.ren0 [0] (.same rfl (ek_TSeg.fref _ _) .nil) rfl (.cons rfl (.dat (ek_TSeg.rlst)) (.cons rfl (.slq rfl rfl) (.cons rfl (.dat .int) .nil)))) (fun s2 B o hS2 hB2 hE2 => ?_)
  unfold S_laws_toSegS_1 at hS2
  refine RW.seq (RW.sreg (rl.run 3 rfl ?_))
  refine rl.gen rfl rfl fun b hb => ?_
  cases b
  ·have h4 := iteBF hS2 hb
   refine rl.done (RW.cond_f rfl (RW.exit (blkA_eq ?_)))
   cases h4
   exact ⟨_, (hE2 _ rfl).symm, (Gh.ren0 [0] (.same rfl (ek_TSeg.fref _ _) .nil) rfl (.cons rfl (.slq rfl rfl) .nil))⟩
  ·have h5 := iteBT hS2 hb
   refine rl.done (RW.cond_t rfl (RW.skip (RW.seq (RW.blk (RW.reg (rl.run 4 rfl ?_))))))
   obtain ⟨v4, e4, h6⟩ := bindS h5
   refine rl.op (x_ia_lst (enc := enc_TSeg) (o := false) rfl rfl rfl e4) ?_
   refine rl.op (x_ld_ela (off' := 0) (vs := (enc_TSeg false v4)) ek_TSeg rfl e4 rfl rfl rfl) ?_
   obtain ⟨v5, e5, h7⟩ := bindS h6
   refine rl.call rfl rfl rfl (CallW.own (r' := .agg [.j v5.No, .j v5.Gen, .j v5.End, .sl 1 0 v5.Items.length]) (H' := [some ⟨fl (enc_TSeg true) s2.2, 4⟩, some ⟨fl (enc_TItem true) v5.Items, 9⟩]) ok_laws_toSeg (law_laws_toSeg e5) (.cons (.dat (.agg (ek_TSeg.dat false _))) .nil) (ek_TSeg.own _) rfl ?_)
   obtain ⟨v6, e6, h8⟩ := bindS h7
   refine rl.op (x_ia_sl rfl rfl rfl rfl e6) ?_
   obtain ⟨v7, e7, h9⟩ := bindS h8
   refine rl.op0 (x_st_raw (off' := 0) ek_TSeg e6 rfl rfl rfl rfl rfl rfl rfl rfl) ?_
   refine rl.done ?_
   refine RW.gh (Gh.absorb_rawq (b := 0) (j := 3) (m := 1) rfl rfl rfl (by decide) (by decide) rfl (ek_TItem.flen true _) (ek_TItem.fown _)) ?_
   refine RW.gh (Gh.blk (b := 0) rfl (raw_set ek_TSeg e6 e7 rfl)) ?_
   refine RW.reg (rl.run 3 rfl (rl.done ?_))
   cases h9
   exact hB2 _ rfl _ _ (Gh.ren0 [0] (.same rfl (ek_TSeg.fref _ _) .nil) rfl (.cons rfl (.dat (ek_TSeg.rlst)) (.cons rfl (.slq rfl (set'_len e7)) (.cons rfl (.dat .int) .nil))))
 ·intro y3 hC
  subst hC
  refine RW.sreg (rl.run 2 rfl (rl.done (RW.ret ?_)))
  cases h3
  exact RRet.mk rfl (OutR.ownq ek_TSeg rfl rfl) (by first | decide | simp)
theorem law_laws_toStringS {x0 : List (List UInt8)} {r : List (List UInt8)} (hF : F_laws_toStringS x0 = some r) : PCalls Tryz.prog 154 [L_S x0] (.lst true 1 (fl (encS true) r) r.length) := by
 refine PCalls.of_r k_laws_toStringS rfl ?_
 unfold F_laws_toStringS at hF
 refine RW.sreg (rl.run 1 rfl (rl.done (RW.sreg (rl.run 2 rfl ?_))))
 obtain ⟨v1, e1, h1⟩ := bindS hF
 refine rl.op (x_ms ekS rfl rfl e1 rfl) ?_
 refine rl.run 1 rfl (rl.done (RW.seq (RW.sreg (rl.run 1 rfl (rl.done ?_)))))
 obtain ⟨y7, ey7, h3⟩ := bindS h1
 refine RW.cutq (σ := (List (List UInt8))) (fun y3 => [(3, .sl 0 0 y3.length)]) (fun y3 => [some ⟨fl (encS true) y3, 1⟩]) (fun y => y7 = y) (fun _ _ _ _ g h => RW.gh g h) ?_ ?_
 ·refine RW.blk ?_
  refine RW.iter (σ := Int × (List (List UInt8))) ey7 (fun s2 => [(0, L_S x0), (3, .sl 0 0 s2.2.length), (4, .j s2.1)]) (fun s2 => [some ⟨fl (encS true) s2.2, 1⟩]) (Gh.ren0 [0] (.same rfl (ekS.fref _ _) .nil) rfl (.cons rfl (.dat (ekS.rlst)) (.cons rfl (.slq rfl rfl) (.cons rfl (.dat .int) .nil)))) (fun s2 B o hS2 hB2 hE2 => ?_)
  unfold S_laws_toStringS_1 at hS2
  refine RW.seq (RW.sreg (rl.run 3 rfl ?_))
  refine rl.gen rfl rfl fun b hb => ?_
  cases b
  ·have h4 := iteBF hS2 hb
   refine rl.done (RW.cond_f rfl (RW.exit (blkA_eq ?_)))
   cases h4
   exact ⟨_, (hE2 _ rfl).symm, (Gh.ren0 [0] (.same rfl (ekS.fref _ _) .nil) rfl (.cons rfl (.slq rfl rfl) .nil))⟩
  ·have h5 := iteBT hS2 hb
   refine rl.done (RW.cond_t rfl (RW.skip (RW.seq (RW.blk (RW.reg (rl.run 4 rfl ?_))))))
   obtain ⟨v4, e4, h6⟩ := bindS h5
   refine rl.op (x_ia_lst (enc := encS) (o := false) rfl rfl rfl e4) ?_
   refine rl.op (x_ld_el (off' := 0) ekS rfl e4 rfl rfl rfl) ?_
   obtain ⟨v5, e5, h7⟩ := bindS h6
   refine rl.op (x_ia_sl rfl rfl rfl rfl e5) ?_
   obtain ⟨v6, e6, h8⟩ := bindS h7
   refine rl.op0 (x_st_sl' (off' := 0) (o := true) (e' := v4) ekS e5 rfl rfl rfl rfl rfl rfl rfl rfl rfl e6) ?_
   refine rl.done (RW.reg (rl.run 3 rfl (rl.done ?_)))
   cases h8
   exact hB2 _ rfl _ _ (Gh.ren0 [0] (.same rfl (ekS.fref _ _) .nil) rfl (.cons rfl (.dat (ekS.rlst)) (.cons rfl (.slq rfl (set'_len e6)) (.cons rfl (.dat .int) .nil))))
 ·intro y3 hC
  subst hC
  refine RW.sreg (rl.run 2 rfl (rl.done (RW.ret ?_)))
  cases h3
  exact RRet.mk rfl (OutR.ownq ekS rfl rfl) (by first | decide | simp)
theorem law_laws_toWrite {x0 : TWrite} {r : TWrite} (hF : F_laws_toWrite x0 = some r) : PCalls Tryz.prog 196 [.agg (enc_TWrite false x0)] (.agg (enc_TWrite true r)) := by
 refine PCalls.of_r k_laws_toWrite rfl ?_
 unfold F_laws_toWrite at hF
 refine RW.sreg (rl.run 2 rfl (rl.done (RW.sreg (rl.run 1 rfl (rl.done (RW.sreg (rl.run 4 rfl (rl.done (RW.sreg (rl.run 4 rfl (rl.done ?_)))))))))))
 refine RW.sreg (rl.run 2 rfl (rl.done (RW.ret ?_)))
 cases hF
 exact RRet.mk rfl (OutL.agg (.cons .int rfl (.cons .str rfl .nil))) (by first | decide | simp)
theorem law_laws_toWriteS {x0 : List TWrite} {r : List TWrite} (hF : F_laws_toWriteS x0 = some r) : PCalls Tryz.prog 155 [L_TWrite x0] (.lst true 2 (fl (enc_TWrite true) r) r.length) := by
 refine PCalls.of_r k_laws_toWriteS rfl ?_
 unfold F_laws_toWriteS at hF
 refine RW.sreg (rl.run 1 rfl (rl.done (RW.sreg (rl.run 2 rfl ?_))))
 obtain ⟨v1, e1, h1⟩ := bindS hF
 refine rl.op (x_ms ek_TWrite rfl rfl e1 rfl) ?_
 refine rl.run 1 rfl (rl.done (RW.seq (RW.sreg (rl.run 1 rfl (rl.done ?_)))))
 obtain ⟨y8, ey8, h3⟩ := bindS h1
 refine RW.cutq (σ := (List TWrite)) (fun y3 => [(3, .sl 0 0 y3.length)]) (fun y3 => [some ⟨fl (enc_TWrite true) y3, 2⟩]) (fun y => y8 = y) (fun _ _ _ _ g h => RW.gh g h) ?_ ?_
 ·refine RW.blk ?_
  refine RW.iter (σ := Int × (List TWrite)) ey8 (fun s2 => [(0, L_TWrite x0), (3, .sl 0 0 s2.2.length), (4, .j s2.1)]) (fun s2 => [some ⟨fl (enc_TWrite true) s2.2, 2⟩]) (Gh.ren0 [0] (.same rfl (ek_TWrite.fref _ _) .nil) rfl (.cons rfl (.dat (ek_TWrite.rlst)) (.cons rfl (.slq rfl rfl) (.cons rfl (.dat .int) .nil)))) (fun s2 B o hS2 hB2 hE2 => ?_)
  unfold S_laws_toWriteS_1 at hS2
  refine RW.seq (RW.sreg (rl.run 3 rfl ?_))
  refine rl.gen rfl rfl fun b hb => ?_
  cases b
  ·have h4 := iteBF hS2 hb
   refine rl.done (RW.cond_f rfl (RW.exit (blkA_eq ?_)))
   cases h4
   exact ⟨_, (hE2 _ rfl).symm, (Gh.ren0 [0] (.same rfl (ek_TWrite.fref _ _) .nil) rfl (.cons rfl (.slq rfl rfl) .nil))⟩
  ·have h5 := iteBT hS2 hb
   refine rl.done (RW.cond_t rfl (RW.skip (RW.seq (RW.blk (RW.reg (rl.run 4 rfl ?_))))))
   obtain ⟨v4, e4, h6⟩ := bindS h5
   refine rl.op (x_ia_lst (enc := enc_TWrite) (o := false) rfl rfl rfl e4) ?_
   refine rl.op (x_ld_ela (off' := 0) (vs := (enc_TWrite false v4)) ek_TWrite rfl e4 rfl rfl rfl) ?_
   obtain ⟨v5, e5, h7⟩ := bindS h6
   refine rl.call rfl rfl rfl (CallW.val (r' := .agg (enc_TWrite false v5)) ok_laws_toWrite (law_laws_toWrite e5) (.cons (.dat (.agg (ek_TWrite.dat false _))) .nil) .refl ?_)
   obtain ⟨v6, e6, h8⟩ := bindS h7
   refine rl.op (x_ia_sl rfl rfl rfl rfl e6) ?_
   obtain ⟨v7, e7, h9⟩ := bindS h8
   refine rl.op0 (x_st_sl' (off' := 0) (o := true) (e' := v5) ek_TWrite e6 rfl rfl rfl rfl rfl rfl rfl rfl rfl e7) ?_
   refine rl.done (RW.reg (rl.run 3 rfl (rl.done ?_)))
   cases h9
   exact hB2 _ rfl _ _ (Gh.ren0 [0] (.same rfl (ek_TWrite.fref _ _) .nil) rfl (.cons rfl (.dat (ek_TWrite.rlst)) (.cons rfl (.slq rfl (set'_len e7)) (.cons rfl (.dat .int) .nil))))
 ·intro y3 hC
  subst hC
  refine RW.sreg (rl.run 2 rfl (rl.done (RW.ret ?_)))
  cases h3
  exact RRet.mk rfl (OutR.ownq ek_TWrite rfl rfl) (by first | decide | simp)
theorem law_laws_toDisk {x0 : TDisk} {r : TDisk} (hF : F_laws_toDisk x0 = some r) : PCalls Tryz.prog 99 [.agg (enc_TDisk false x0)] (.agg (enc_TDisk true r)) := by
 refine PCalls.of_r k_laws_toDisk rfl ?_
 unfold F_laws_toDisk at hF
 refine RW.sreg (rl.run 2 rfl (rl.done (RW.sreg (rl.run 1 rfl (rl.done (RW.sreg (rl.run 2 rfl ?_)))))))
 obtain ⟨v1, e1, h1⟩ := bindS hF
 refine rl.call rfl rfl rfl (CallW.own (r' := .sl 3 0 v1.length) (H' := [some ⟨[L_S x0.Sectors, L_TWrite x0.Cache], 0⟩, some ⟨[.nils, .nils], 0⟩, some ⟨[.nils, .nils], 0⟩, some ⟨fl (encS true) v1, 1⟩]) ok_laws_toStringS (law_laws_toStringS e1) (.cons (.lst ekS) .nil) (.lst (ekS.fown _)) rfl ?_)
 refine rl.run 2 rfl (rl.done (RW.sreg (rl.run 2 rfl ?_)))
 obtain ⟨v2, e2, h2⟩ := bindS h1
 refine rl.call rfl rfl rfl (CallW.own (r' := .sl 4 0 v2.length) (H' := [some ⟨[L_S x0.Sectors, L_TWrite x0.Cache], 0⟩, some ⟨[.nils, .nils], 0⟩, some ⟨[.sl 3 0 v1.length, .nils], 0⟩, some ⟨fl (encS true) v1, 1⟩, some ⟨fl (enc_TWrite true) v2, 2⟩]) ok_laws_toWriteS (law_laws_toWriteS e2) (.cons (.lst ek_TWrite) .nil) (.lst (ek_TWrite.fown _)) rfl ?_)
 refine rl.run 2 rfl (rl.done (RW.sreg (rl.run 2 rfl (rl.done ?_))))
 refine RW.kp [2] [(2, .ptr 1 0)] [some ⟨[L_S x0.Sectors, L_TWrite x0.Cache], 0⟩, some ⟨[.sl 3 0 v1.length, .sl 4 0 v2.length], 0⟩, some ⟨[.sl 3 0 v1.length, .sl 4 0 v2.length], 0⟩, some ⟨fl (encS true) v1, 1⟩, some ⟨fl (enc_TWrite true) v2, 2⟩] rfl rfl ?_
 refine RW.ret ?_
 cases h2
 exact RRet.mk rfl (OutL.agg (.cons (OutR.ownq ekS rfl rfl) rfl (.cons (OutR.ownq ek_TWrite rfl rfl) rfl .nil))) (by first | decide | simp)
theorem law_laws_toLog {x0 : TLog} {r : TLog} (hF : F_laws_toLog x0 = some r) : PCalls Tryz.prog 51 [.agg (enc_TLog false x0)] (.agg (enc_TLog true r)) := by
 refine PCalls.of_r k_laws_toLog rfl ?_
 unfold F_laws_toLog at hF
 refine RW.sreg (rl.run 2 rfl (rl.done (RW.sreg (rl.run 1 rfl (rl.done (RW.sreg (rl.run 2 rfl ?_)))))))
 obtain ⟨v1, e1, h1⟩ := bindS hF
 refine rl.call rfl rfl rfl (CallW.own (r' := .agg [.sl 3 0 v1.Sectors.length, .sl 4 0 v1.Cache.length]) (H' := [some ⟨[L_S x0.Disk.Sectors, L_TWrite x0.Disk.Cache, .j x0.Segs, L_TSeg x0.Used, .j x0.NextGen, .j x0.NextSeq, .j x0.Stamp, .j x0.NextValid], 0⟩, some ⟨[.nils, .nils, .j 0, .nils, .j 0, .j 0, .j 0, .j 0], 0⟩, some ⟨[.nils, .nils, .j 0, .nils, .j 0, .j 0, .j 0, .j 0], 0⟩, some ⟨fl (encS true) v1.Sectors, 1⟩, some ⟨fl (enc_TWrite true) v1.Cache, 2⟩]) ok_laws_toDisk (law_laws_toDisk e1) (.cons (DFL.agg (.cons (.lst ekS) (.cons (.lst ek_TWrite) .nil))) .nil) (ek_TDisk.own _) rfl ?_)
 refine rl.run 2 rfl (rl.done (RW.sreg (rl.run 4 rfl (rl.done (RW.sreg (rl.run 2 rfl ?_))))))
 obtain ⟨v2, e2, h2⟩ := bindS h1
 refine rl.call rfl rfl rfl (CallW.own (r' := .sl 5 0 v2.length) (H' := [some ⟨[L_S x0.Disk.Sectors, L_TWrite x0.Disk.Cache, .j x0.Segs, L_TSeg x0.Used, .j x0.NextGen, .j x0.NextSeq, .j x0.Stamp, .j x0.NextValid], 0⟩, some ⟨[.nils, .nils, .j 0, .nils, .j 0, .j 0, .j 0, .j 0], 0⟩, some ⟨[.sl 3 0 v1.Sectors.length, .sl 4 0 v1.Cache.length, .j x0.Segs, .nils, .j 0, .j 0, .j 0, .j 0], 0⟩, some ⟨fl (encS true) v1.Sectors, 1⟩, some ⟨fl (enc_TWrite true) v1.Cache, 2⟩, some ⟨fl (enc_TSeg true) v2, 4⟩]) ok_laws_toSegS (law_laws_toSegS e2) (.cons (.lst ek_TSeg) .nil) (.lst (ek_TSeg.fown _)) rfl ?_)
 refine rl.run 2 rfl (rl.done ?_)
 refine RW.kp [1, 2, 3] [(1, .ptr 0 0), (2, .ptr 1 0), (3, .ptr 2 0)] [some ⟨[L_S x0.Disk.Sectors, L_TWrite x0.Disk.Cache, .j x0.Segs, L_TSeg x0.Used, .j x0.NextGen, .j x0.NextSeq, .j x0.Stamp, .j x0.NextValid], 0⟩, some ⟨[.nils, .nils, .j 0, .nils, .j 0, .j 0, .j 0, .j 0], 0⟩, some ⟨[.sl 3 0 v1.Sectors.length, .sl 4 0 v1.Cache.length, .j x0.Segs, .sl 5 0 v2.length, .j 0, .j 0, .j 0, .j 0], 0⟩, some ⟨fl (encS true) v1.Sectors, 1⟩, some ⟨fl (enc_TWrite true) v1.Cache, 2⟩, some ⟨fl (enc_TSeg true) v2, 4⟩] rfl rfl ?_
 refine RW.sreg (rl.run 4 rfl (rl.done (RW.sreg (rl.run 4 rfl (rl.done (RW.sreg (rl.run 4 rfl (rl.done (RW.sreg (rl.run 4 rfl (rl.done ?_)))))))))))
 refine RW.kp [2, 3] [(2, .ptr 1 0), (3, .ptr 2 0)] [some ⟨[L_S x0.Disk.Sectors, L_TWrite x0.Disk.Cache, .j x0.Segs, L_TSeg x0.Used, .j x0.NextGen, .j x0.NextSeq, .j x0.Stamp, .j x0.NextValid], 0⟩, some ⟨[.nils, .nils, .j 0, .nils, .j 0, .j 0, .j 0, .j 0], 0⟩, some ⟨[.sl 3 0 v1.Sectors.length, .sl 4 0 v1.Cache.length, .j x0.Segs, .sl 5 0 v2.length, .j x0.NextGen, .j x0.NextSeq, .j x0.Stamp, .j x0.NextValid], 0⟩, some ⟨fl (encS true) v1.Sectors, 1⟩, some ⟨fl (enc_TWrite true) v1.Cache, 2⟩, some ⟨fl (enc_TSeg true) v2, 4⟩] rfl rfl ?_
 refine RW.sreg (rl.run 2 rfl (rl.done (RW.ret ?_)))
 cases h2
 exact RRet.mk rfl (OutL.agg (.cons (OutR.ownq ekS rfl rfl) rfl (.cons (OutR.ownq ek_TWrite rfl rfl) rfl (.cons .int rfl (.cons (OutR.ownq ek_TSeg rfl rfl) rfl (.cons .int rfl (.cons .int rfl (.cons .int rfl (.cons .int rfl .nil))))))))) (by first | decide | simp)
theorem law_laws_toIntS {x0 : List Int} {r : List Int} (hF : F_laws_toIntS x0 = some r) : PCalls Tryz.prog 52 [L_I x0] (.lst true 1 (fl (encI true) r) r.length) := by
 refine PCalls.of_r k_laws_toIntS rfl ?_
 unfold F_laws_toIntS at hF
 refine RW.sreg (rl.run 1 rfl (rl.done (RW.sreg (rl.run 2 rfl ?_))))
 obtain ⟨v1, e1, h1⟩ := bindS hF
 refine rl.op (x_ms ekI rfl rfl e1 rfl) ?_
 refine rl.run 1 rfl (rl.done (RW.seq (RW.sreg (rl.run 1 rfl (rl.done ?_)))))
 obtain ⟨y7, ey7, h3⟩ := bindS h1
 refine RW.cutq (σ := (List Int)) (fun y3 => [(3, .sl 0 0 y3.length)]) (fun y3 => [some ⟨fl (encI true) y3, 1⟩]) (fun y => y7 = y) (fun _ _ _ _ g h => RW.gh g h) ?_ ?_
 ·refine RW.blk ?_
  refine RW.iter (σ := Int × (List Int)) ey7 (fun s2 => [(0, L_I x0), (3, .sl 0 0 s2.2.length), (4, .j s2.1)]) (fun s2 => [some ⟨fl (encI true) s2.2, 1⟩]) (Gh.ren0 [0] (.same rfl (ekI.fref _ _) .nil) rfl (.cons rfl (.dat (ekI.rlst)) (.cons rfl (.slq rfl rfl) (.cons rfl (.dat .int) .nil)))) (fun s2 B o hS2 hB2 hE2 => ?_)
  unfold S_laws_toIntS_1 at hS2
  refine RW.seq (RW.sreg (rl.run 3 rfl ?_))
  refine rl.gen rfl rfl fun b hb => ?_
  cases b
  ·have h4 := iteBF hS2 hb
   refine rl.done (RW.cond_f rfl (RW.exit (blkA_eq ?_)))
   cases h4
   exact ⟨_, (hE2 _ rfl).symm, (Gh.ren0 [0] (.same rfl (ekI.fref _ _) .nil) rfl (.cons rfl (.slq rfl rfl) .nil))⟩
  ·have h5 := iteBT hS2 hb
   refine rl.done (RW.cond_t rfl (RW.skip (RW.seq (RW.blk (RW.reg (rl.run 4 rfl ?_))))))
   obtain ⟨v4, e4, h6⟩ := bindS h5
   refine rl.op (x_ia_lst (enc := encI) (o := false) rfl rfl rfl e4) ?_
   refine rl.op (x_ld_el (off' := 0) ekI rfl e4 rfl rfl rfl) ?_
   obtain ⟨v5, e5, h7⟩ := bindS h6
   refine rl.op (x_ia_sl rfl rfl rfl rfl e5) ?_
   obtain ⟨v6, e6, h8⟩ := bindS h7
   refine rl.op0 (x_st_sl' (off' := 0) (o := true) (e' := v4) ekI e5 rfl rfl rfl rfl rfl rfl rfl rfl rfl e6) ?_
   refine rl.done (RW.reg (rl.run 3 rfl (rl.done ?_)))
   cases h8
   exact hB2 _ rfl _ _ (Gh.ren0 [0] (.same rfl (ekI.fref _ _) .nil) rfl (.cons rfl (.dat (ekI.rlst)) (.cons rfl (.slq rfl (set'_len e6)) (.cons rfl (.dat .int) .nil))))
 ·intro y3 hC
  subst hC
  refine RW.sreg (rl.run 2 rfl (rl.done (RW.ret ?_)))
  cases h3
  exact RRet.mk rfl (OutR.ownq ekI rfl rfl) (by first | decide | simp)
theorem law_laws_toStore {x0 : TStore} {r : TStore} (hF : F_laws_toStore x0 = some r) : PCalls Tryz.prog 19 [.agg (enc_TStore false x0)] (.agg (enc_TStore true r)) := by
 refine PCalls.of_r k_laws_toStore rfl ?_
 unfold F_laws_toStore at hF
 refine RW.sreg (rl.run 2 rfl (rl.done (RW.sreg (rl.run 1 rfl (rl.done (RW.sreg (rl.run 2 rfl ?_)))))))
 obtain ⟨v1, e1, h1⟩ := bindS hF
 refine rl.call rfl rfl rfl (CallW.own (r' := .agg [.sl 3 0 v1.Disk.Sectors.length, .sl 4 0 v1.Disk.Cache.length, .j v1.Segs, .sl 5 0 v1.Used.length, .j v1.NextGen, .j v1.NextSeq, .j v1.Stamp, .j v1.NextValid]) (H' := [some ⟨[L_S x0.Log.Disk.Sectors, L_TWrite x0.Log.Disk.Cache, .j x0.Log.Segs, L_TSeg x0.Log.Used, .j x0.Log.NextGen, .j x0.Log.NextSeq, .j x0.Log.Stamp, .j x0.Log.NextValid, L_I x0.Freed], 0⟩, some ⟨[.nils, .nils, .j 0, .nils, .j 0, .j 0, .j 0, .j 0, .nils], 0⟩, some ⟨[.nils, .nils, .j 0, .nils, .j 0, .j 0, .j 0, .j 0, .nils], 0⟩, some ⟨fl (encS true) v1.Disk.Sectors, 1⟩, some ⟨fl (enc_TWrite true) v1.Disk.Cache, 2⟩, some ⟨fl (enc_TSeg true) v1.Used, 4⟩]) ok_laws_toLog (law_laws_toLog e1) (.cons (DFL.agg (.cons (.lst ekS) (.cons (.lst ek_TWrite) (.cons .int (.cons (.lst ek_TSeg) (.cons .int (.cons .int (.cons .int (.cons .int .nil))))))))) .nil) (ek_TLog.own _) rfl ?_)
 refine rl.run 2 rfl (rl.done (RW.sreg (rl.run 2 rfl ?_)))
 obtain ⟨v2, e2, h2⟩ := bindS h1
 refine rl.call rfl rfl rfl (CallW.own (r' := .sl 6 0 v2.length) (H' := [some ⟨[L_S x0.Log.Disk.Sectors, L_TWrite x0.Log.Disk.Cache, .j x0.Log.Segs, L_TSeg x0.Log.Used, .j x0.Log.NextGen, .j x0.Log.NextSeq, .j x0.Log.Stamp, .j x0.Log.NextValid, L_I x0.Freed], 0⟩, some ⟨[.nils, .nils, .j 0, .nils, .j 0, .j 0, .j 0, .j 0, .nils], 0⟩, some ⟨[.sl 3 0 v1.Disk.Sectors.length, .sl 4 0 v1.Disk.Cache.length, .j v1.Segs, .sl 5 0 v1.Used.length, .j v1.NextGen, .j v1.NextSeq, .j v1.Stamp, .j v1.NextValid, .nils], 0⟩, some ⟨fl (encS true) v1.Disk.Sectors, 1⟩, some ⟨fl (enc_TWrite true) v1.Disk.Cache, 2⟩, some ⟨fl (enc_TSeg true) v1.Used, 4⟩, some ⟨fl (encI true) v2, 1⟩]) ok_laws_toIntS (law_laws_toIntS e2) (.cons (.lst ekI) .nil) (.lst (ekI.fown _)) rfl ?_)
 refine rl.run 2 rfl (rl.done (RW.sreg (rl.run 2 rfl (rl.done ?_))))
 refine RW.kp [2] [(2, .ptr 1 0)] [some ⟨[L_S x0.Log.Disk.Sectors, L_TWrite x0.Log.Disk.Cache, .j x0.Log.Segs, L_TSeg x0.Log.Used, .j x0.Log.NextGen, .j x0.Log.NextSeq, .j x0.Log.Stamp, .j x0.Log.NextValid, L_I x0.Freed], 0⟩, some ⟨[.sl 3 0 v1.Disk.Sectors.length, .sl 4 0 v1.Disk.Cache.length, .j v1.Segs, .sl 5 0 v1.Used.length, .j v1.NextGen, .j v1.NextSeq, .j v1.Stamp, .j v1.NextValid, .sl 6 0 v2.length], 0⟩, some ⟨[.sl 3 0 v1.Disk.Sectors.length, .sl 4 0 v1.Disk.Cache.length, .j v1.Segs, .sl 5 0 v1.Used.length, .j v1.NextGen, .j v1.NextSeq, .j v1.Stamp, .j v1.NextValid, .sl 6 0 v2.length], 0⟩, some ⟨fl (encS true) v1.Disk.Sectors, 1⟩, some ⟨fl (enc_TWrite true) v1.Disk.Cache, 2⟩, some ⟨fl (enc_TSeg true) v1.Used, 4⟩, some ⟨fl (encI true) v2, 1⟩] rfl rfl ?_
 refine RW.ret ?_
 cases h2
 exact RRet.mk rfl (OutL.agg (.cons (OutR.ownq ekS rfl rfl) rfl (.cons (OutR.ownq ek_TWrite rfl rfl) rfl (.cons .int rfl (.cons (OutR.ownq ek_TSeg rfl rfl) rfl (.cons .int rfl (.cons .int rfl (.cons .int rfl (.cons .int rfl (.cons (OutR.ownq ekI rfl rfl) rfl .nil)))))))))) (by first | decide | simp)
theorem law_spec_l01In {x0 : Int} {x1 : Int} {x2 : Int} {r : Bool} (hF : F_spec_l01In x0 x1 x2 = some r) : PCalls Tryz.prog 28 [.j x0, .j x1, .j x2] (.bool r) := by
 refine PCalls.of_r k_spec_l01In rfl ?_
 unfold F_spec_l01In at hF
 refine RW.sreg (rl.run 1 rfl (rl.done (RW.sreg (rl.run 2 rfl ?_))))
 refine rl.gen rfl rfl fun b hb => ?_
 cases b
 ·have h1 := iteBF hF hb
  refine rl.run 6 rfl (rl.done ?_)
  refine RW.kp [6] [(6, .bool false)] [] rfl rfl ?_
  refine RW.ret ?_
  cases h1
  exact RRet.mk rfl .bool (by first | decide | simp)
 ·have h2 := iteBT hF hb
  refine rl.run 6 rfl (rl.done ?_)
  refine RW.kp [6] [(6, .bool (decide (x0 ≤ x2)))] [] rfl rfl ?_
  refine RW.ret ?_
  cases h2
  exact RRet.mk rfl .bool (by first | decide | simp)
theorem law_spec_WordOk {x0 : List UInt8} {r : Bool} (hF : F_spec_WordOk x0 = some r) : PCalls Tryz.prog 195 [.str x0] (.bool r) := by
 refine PCalls.of_r k_spec_WordOk rfl ?_
 unfold F_spec_WordOk at hF
 refine RW.sreg (rl.run 1 rfl (rl.done (RW.seq (RW.sreg (rl.run 1 rfl (rl.done ?_))))))
 obtain ⟨y6, ey6, h2⟩ := bindS hF
 refine RW.cutq (σ := Unit) (fun y2 => [(0, .str x0)]) (fun y2 => []) (fun y => y6 = .inr y) (fun _ _ _ _ g h => RW.gh g h) ?_ ?_
 ·refine RW.blk ?_
  refine RW.iter (σ := Int) ey6 (fun s1 => [(0, .str x0), (3, .j s1)]) (fun s1 => []) (Gh.ren0 [] .nil rfl (.cons rfl (.dat .str) (.cons rfl (.dat .int) .nil))) (fun s1 B o hS1 hB1 hE1 => ?_)
  unfold S_spec_WordOk_1 at hS1
  refine RW.seq (RW.sreg (rl.run 3 rfl ?_))
  refine rl.gen rfl rfl fun b hb => ?_
  cases b
  ·have h3 := iteBF hS1 hb
   refine rl.done (RW.cond_f rfl (RW.exit (blkA_eq ?_)))
   cases h3
   exact ⟨_, (hE1 _ rfl).symm, (Gh.ren0 [] .nil rfl (.cons rfl (.dat .str) .nil))⟩
  ·have h4 := iteBT hS1 hb
   refine rl.done (RW.cond_t rfl (RW.skip (RW.seq (RW.blk (RW.seq ?_)))))
   obtain ⟨y3, ey3, h5⟩ := bindS h4
   refine RW.cutq (σ := Bool) (fun y3 => [(0, .str x0), (3, .j s1), (19, .bool y3)]) (fun y3 => []) (fun y => y3 = y) (fun _ _ _ _ g h => RW.gh g h) ?_ ?_
   ·refine RW.reg ?_
    refine rl.run 2 rfl ?_
    obtain ⟨v4, e4, h6⟩ := bindS ey3
    refine rl.op (x_idx rfl rfl e4) ?_
    refine rl.gen rfl rfl fun b hb => ?_
    cases b
    ·have h7 := iteBF h6 hb
     refine rl.run 3 rfl ?_
     obtain ⟨v5, e5, h8⟩ := bindS h7
     refine rl.gop rfl (x_idx rfl rfl e5) ?_
     refine rl.gen rfl rfl fun b hb => ?_
     cases b
     ·have h9 := iteBF h8 hb
      refine rl.run 1 rfl (rl.done ?_)
      cases h9
      exact ⟨_, rfl, (Gh.ren0 [] .nil rfl (.cons rfl (.dat .str) (.cons rfl (.dat .int) (.cons rfl (.dat .bool) .nil))))⟩
     ·have h10 := iteBT h8 hb
      refine rl.run 1 rfl (rl.done ?_)
      cases h10
      exact ⟨_, rfl, (Gh.ren0 [] .nil rfl (.cons rfl (.dat .str) (.cons rfl (.dat .int) (.cons rfl (.dat .bool) .nil))))⟩
    ·have h11 := iteBT h6 hb
     refine rl.run 6 rfl (rl.done ?_)
     cases h11
     exact ⟨_, rfl, (Gh.ren0 [] .nil rfl (.cons rfl (.dat .str) (.cons rfl (.dat .int) (.cons rfl (.dat .bool) .nil))))⟩
   ·intro y hC
    subst hC
    cases hb : y3
    ·have h12 := iteBF h5 hb
     refine RW.cond_f rfl (RW.skip (RW.reg (rl.run 3 rfl (rl.done ?_))))
     cases h12
     exact hB1 _ rfl _ _ (Gh.ren0 [] .nil rfl (.cons rfl (.dat .str) (.cons rfl (.dat .int) .nil)))
    ·have h13 := iteBT h5 hb
     refine RW.cond_t rfl (RW.sreg (rl.run 1 rfl (rl.done (RW.ret ?_))))
     cases h13
     have h14 := elimL h2 (hE1 _ rfl)
     cases h14
     exact RRet.mk rfl .bool (by first | decide | simp)
 ·intro y2 hC
  have h2 := elimR h2 hC
  refine RW.sreg (rl.run 2 rfl ?_)
  obtain ⟨v7, e7, h15⟩ := bindS h2
  refine rl.call rfl rfl rfl (CallW.val (r' := .bool v7) ok_spec_l01In (law_spec_l01In e7) (.cons .int (.cons .int (.cons .int .nil))) .refl ?_)
  refine rl.run 1 rfl (rl.done (RW.ret ?_))
  cases h15
  exact RRet.mk rfl .bool (by first | decide | simp)
set_option maxHeartbeats 2000000 in
theorem law_spec_RecOk {x0 : TRec} {r : Bool} (hF : F_spec_RecOk x0 = some r) : PCalls Tryz.prog 153 [.agg (enc_TRec false x0)] (.bool r) := by
 refine PCalls.of_r k_spec_RecOk rfl ?_
 unfold F_spec_RecOk at hF
 refine RW.sreg (rl.run 2 rfl (rl.done (RW.seq (RW.seq ?_))))
 obtain ⟨y1, ey1, h1⟩ := bindS hF
 refine RW.cutq (σ := Bool) (fun y1 => [(1, .ptr 0 0), (15, .bool y1)]) (fun y1 => [some ⟨[.j x0.Kind, .j x0.Valid, .j x0.Uid, .j x0.Next, .j x0.Flags, .str x0.User, .str x0.Name, .str x0.Text], 0⟩]) (fun y => y1 = y) (fun _ _ _ _ g h => RW.gh g h) ?_ ?_
 ·refine RW.reg ?_
  refine rl.run 2 rfl ?_
  obtain ⟨v2, e2, h2⟩ := bindS ey1
  refine rl.call rfl rfl rfl (CallW.val (r' := .bool v2) ok_spec_l01In (law_spec_l01In e2) (.cons .int (.cons .int (.cons .int .nil))) .refl ?_)
  cases hb : v2
  ·have h3 := iteBF h2 hb
   refine rl.run 7 rfl (rl.done ?_)
   cases h3
   exact ⟨_, rfl, (Gh.ren0 [0] (.cells rfl rfl (.keep .int (.keep .int (.keep .int (.keep .int (.keep .int (.keep .str (.keep .str (.keep .str .nil)))))))) .nil) rfl (.cons rfl (.ptr rfl) (.cons rfl (.dat .bool) .nil)))⟩
  ·have h4 := iteBT h2 hb
   refine rl.run 4 rfl ?_
   obtain ⟨v3, e3, h5⟩ := bindS h4
   refine rl.call rfl rfl rfl (CallW.val (r' := .bool v3) ok_spec_l01In (law_spec_l01In e3) (.cons .int (.cons .int (.cons .int .nil))) .refl ?_)
   cases hb : v3
   ·have h6 := iteBF h5 hb
    refine rl.run 2 rfl (rl.done ?_)
    cases h6
    exact ⟨_, rfl, (Gh.ren0 [0] (.cells rfl rfl (.keep .int (.keep .int (.keep .int (.keep .int (.keep .int (.keep .str (.keep .str (.keep .str .nil)))))))) .nil) rfl (.cons rfl (.ptr rfl) (.cons rfl (.dat .bool) .nil)))⟩
   ·have h7 := iteBT h5 hb
    refine rl.run 2 rfl (rl.done ?_)
    cases h7
    exact ⟨_, rfl, (Gh.ren0 [0] (.cells rfl rfl (.keep .int (.keep .int (.keep .int (.keep .int (.keep .int (.keep .str (.keep .str (.keep .str .nil)))))))) .nil) rfl (.cons rfl (.ptr rfl) (.cons rfl (.dat .bool) .nil)))⟩
 ·intro y hC
  subst hC
  cases hb : y1
  ·have h8 := iteBF h1 hb
   refine RW.cond_f rfl (RW.skip (RW.sreg (rl.run 2 rfl ?_)))
   refine rl.gen rfl rfl fun b hb => ?_
   cases b
   ·have h9 := iteBF h8 hb
    refine rl.run 1 rfl (rl.done (RW.seq ?_))
    obtain ⟨y4, ey4, h10⟩ := bindS h9
    refine RW.cutq (σ := Bool) (fun y4 => [(1, .ptr 0 0), (3, .bool false), (4, .bool y4)]) (fun y4 => [some ⟨[.j x0.Kind, .j x0.Valid, .j x0.Uid, .j x0.Next, .j x0.Flags, .str x0.User, .str x0.Name, .str x0.Text], 0⟩]) (fun y => y4 = y) (fun _ _ _ _ g h => RW.gh g h) ?_ ?_
    ·refine RW.reg ?_
     refine rl.run 2 rfl ?_
     refine rl.gen rfl rfl fun b hb => ?_
     cases b
     ·have h11 := iteBF ey4 hb
      refine rl.run 3 rfl ?_
      refine rl.gen rfl rfl fun b hb => ?_
      cases b
      ·have h12 := iteBF h11 hb
       refine rl.run 4 rfl ?_
       refine rl.gen rfl rfl fun b hb => ?_
       cases b
       ·have h13 := iteBF h12 hb
        refine rl.run 2 rfl (rl.done ?_)
        cases h13
        exact ⟨_, rfl, (Gh.ren0 [0] (.cells rfl rfl (.keep .int (.keep .int (.keep .int (.keep .int (.keep .int (.keep .str (.keep .str (.keep .str .nil)))))))) .nil) rfl (.cons rfl (.ptr rfl) (.cons rfl (.dat .bool) (.cons rfl (.dat .bool) .nil))))⟩
       ·have h14 := iteBT h12 hb
        refine rl.run 2 rfl (rl.done ?_)
        cases h14
        exact ⟨_, rfl, (Gh.ren0 [0] (.cells rfl rfl (.keep .int (.keep .int (.keep .int (.keep .int (.keep .int (.keep .str (.keep .str (.keep .str .nil)))))))) .nil) rfl (.cons rfl (.ptr rfl) (.cons rfl (.dat .bool) (.cons rfl (.dat .bool) .nil))))⟩
      ·have h15 := iteBT h11 hb
       refine rl.run 7 rfl (rl.done ?_)
       cases h15
       exact ⟨_, rfl, (Gh.ren0 [0] (.cells rfl rfl (.keep .int (.keep .int (.keep .int (.keep .int (.keep .int (.keep .str (.keep .str (.keep .str .nil)))))))) .nil) rfl (.cons rfl (.ptr rfl) (.cons rfl (.dat .bool) (.cons rfl (.dat .bool) .nil))))⟩
     ·have h16 := iteBT ey4 hb
      refine rl.run 11 rfl (rl.done ?_)
      cases h16
      exact ⟨_, rfl, (Gh.ren0 [0] (.cells rfl rfl (.keep .int (.keep .int (.keep .int (.keep .int (.keep .int (.keep .str (.keep .str (.keep .str .nil)))))))) .nil) rfl (.cons rfl (.ptr rfl) (.cons rfl (.dat .bool) (.cons rfl (.dat .bool) .nil))))⟩
    ·intro y hC
     subst hC
     refine RW.seq ?_
     obtain ⟨y5, ey5, h17⟩ := bindS h10
     refine RW.cutq (σ := Bool) (fun y5 => [(1, .ptr 0 0), (3, .bool false), (4, .bool y4), (5, .bool y5)]) (fun y5 => [some ⟨[.j x0.Kind, .j x0.Valid, .j x0.Uid, .j x0.Next, .j x0.Flags, .str x0.User, .str x0.Name, .str x0.Text], 0⟩]) (fun y => y5 = y) (fun _ _ _ _ g h => RW.gh g h) ?_ ?_
     ·refine RW.reg ?_
      refine rl.run 2 rfl ?_
      refine rl.gen rfl rfl fun b hb => ?_
      cases b
      ·have h18 := iteBF ey5 hb
       refine rl.run 3 rfl ?_
       refine rl.gen rfl rfl fun b hb => ?_
       cases b
       ·have h19 := iteBF h18 hb
        refine rl.run 2 rfl (rl.done ?_)
        cases h19
        exact ⟨_, rfl, (Gh.ren0 [0] (.cells rfl rfl (.keep .int (.keep .int (.keep .int (.keep .int (.keep .int (.keep .str (.keep .str (.keep .str .nil)))))))) .nil) rfl (.cons rfl (.ptr rfl) (.cons rfl (.dat .bool) (.cons rfl (.dat .bool) (.cons rfl (.dat .bool) .nil)))))⟩
       ·have h20 := iteBT h18 hb
        refine rl.run 2 rfl (rl.done ?_)
        cases h20
        exact ⟨_, rfl, (Gh.ren0 [0] (.cells rfl rfl (.keep .int (.keep .int (.keep .int (.keep .int (.keep .int (.keep .str (.keep .str (.keep .str .nil)))))))) .nil) rfl (.cons rfl (.ptr rfl) (.cons rfl (.dat .bool) (.cons rfl (.dat .bool) (.cons rfl (.dat .bool) .nil)))))⟩
      ·have h21 := iteBT ey5 hb
       refine rl.run 6 rfl (rl.done ?_)
       cases h21
       exact ⟨_, rfl, (Gh.ren0 [0] (.cells rfl rfl (.keep .int (.keep .int (.keep .int (.keep .int (.keep .int (.keep .str (.keep .str (.keep .str .nil)))))))) .nil) rfl (.cons rfl (.ptr rfl) (.cons rfl (.dat .bool) (.cons rfl (.dat .bool) (.cons rfl (.dat .bool) .nil)))))⟩
     ·intro y hC
      subst hC
      refine RW.seq (RW.seq ?_)
      obtain ⟨y6, ey6, h22⟩ := bindS h17
      refine RW.cutq (σ := Bool) (fun y6 => [(1, .ptr 0 0), (4, .bool y4), (5, .bool y5), (77, .bool y6)]) (fun y6 => [some ⟨[.j x0.Kind, .j x0.Valid, .j x0.Uid, .j x0.Next, .j x0.Flags, .str x0.User, .str x0.Name, .str x0.Text], 0⟩]) (fun y => y6 = y) (fun _ _ _ _ g h => RW.gh g h) ?_ ?_
      ·refine RW.reg ?_
       refine rl.run 25 rfl ?_
       refine rl.gen rfl rfl fun b hb => ?_
       cases b
       ·have h23 := iteBF ey6 hb
        refine rl.run 3 rfl ?_
        refine rl.gen rfl rfl fun b hb => ?_
        cases b
        ·have h24 := iteBF h23 hb
         refine rl.run 4 rfl ?_
         refine rl.gen rfl rfl fun b hb => ?_
         cases b
         ·have h25 := iteBF h24 hb
          refine rl.run 3 rfl (rl.done ?_)
          cases h25
          exact ⟨_, rfl, (Gh.ren0 [0] (.cells rfl rfl (.keep .int (.keep .int (.keep .int (.keep .int (.keep .int (.keep .str (.keep .str (.keep .str .nil)))))))) .nil) rfl (.cons rfl (.ptr rfl) (.cons rfl (.dat .bool) (.cons rfl (.dat .bool) (.cons rfl (.dat .bool) .nil)))))⟩
         ·have h26 := iteBT h24 hb
          refine rl.run 3 rfl (rl.done ?_)
          cases h26
          exact ⟨_, rfl, (Gh.ren0 [0] (.cells rfl rfl (.keep .int (.keep .int (.keep .int (.keep .int (.keep .int (.keep .str (.keep .str (.keep .str .nil)))))))) .nil) rfl (.cons rfl (.ptr rfl) (.cons rfl (.dat .bool) (.cons rfl (.dat .bool) (.cons rfl (.dat .bool) .nil)))))⟩
        ·have h27 := iteBT h23 hb
         refine rl.run 8 rfl (rl.done ?_)
         cases h27
         exact ⟨_, rfl, (Gh.ren0 [0] (.cells rfl rfl (.keep .int (.keep .int (.keep .int (.keep .int (.keep .int (.keep .str (.keep .str (.keep .str .nil)))))))) .nil) rfl (.cons rfl (.ptr rfl) (.cons rfl (.dat .bool) (.cons rfl (.dat .bool) (.cons rfl (.dat .bool) .nil)))))⟩
       ·have h28 := iteBT ey6 hb
        refine rl.run 12 rfl (rl.done ?_)
        cases h28
        exact ⟨_, rfl, (Gh.ren0 [0] (.cells rfl rfl (.keep .int (.keep .int (.keep .int (.keep .int (.keep .int (.keep .str (.keep .str (.keep .str .nil)))))))) .nil) rfl (.cons rfl (.ptr rfl) (.cons rfl (.dat .bool) (.cons rfl (.dat .bool) (.cons rfl (.dat .bool) .nil)))))⟩
      ·intro y hC
       subst hC
       cases hb : y6
       ·have h29 := iteBF h22 hb
        refine RW.cond_f rfl (RW.skip (RW.seq (RW.seq ?_)))
        obtain ⟨y7, ey7, h30⟩ := bindS h29
        refine RW.cutq (σ := Bool) (fun y7 => [(1, .ptr 0 0), (5, .bool y5), (93, .bool y7)]) (fun y7 => [some ⟨[.j x0.Kind, .j x0.Valid, .j x0.Uid, .j x0.Next, .j x0.Flags, .str x0.User, .str x0.Name, .str x0.Text], 0⟩]) (fun y => y7 = y) (fun _ _ _ _ g h => RW.gh g h) ?_ ?_
        ·refine RW.reg ?_
         refine rl.run 2 rfl ?_
         cases hb : y4
         ·have h31 := iteBF ey7 hb
          refine rl.run 11 rfl ?_
          refine rl.gen rfl rfl fun b hb => ?_
          cases b
          ·have h32 := iteBF h31 hb
           refine rl.run 2 rfl (rl.done ?_)
           cases h32
           exact ⟨_, rfl, (Gh.ren0 [0] (.cells rfl rfl (.keep .int (.keep .int (.keep .int (.keep .int (.keep .int (.keep .str (.keep .str (.keep .str .nil)))))))) .nil) rfl (.cons rfl (.ptr rfl) (.cons rfl (.dat .bool) (.cons rfl (.dat .bool) .nil))))⟩
          ·have h33 := iteBT h31 hb
           refine rl.run 2 rfl (rl.done ?_)
           cases h33
           exact ⟨_, rfl, (Gh.ren0 [0] (.cells rfl rfl (.keep .int (.keep .int (.keep .int (.keep .int (.keep .int (.keep .str (.keep .str (.keep .str .nil)))))))) .nil) rfl (.cons rfl (.ptr rfl) (.cons rfl (.dat .bool) (.cons rfl (.dat .bool) .nil))))⟩
         ·have h34 := iteBT ey7 hb
          refine rl.run 2 rfl ?_
          obtain ⟨v8, e8, h35⟩ := bindS h34
          refine rl.call rfl rfl rfl (CallW.val (r' := .bool v8) ok_spec_l01In (law_spec_l01In e8) (.cons .int (.cons .int (.cons .int .nil))) .refl ?_)
          cases hb : v8
          ·have h36 := iteBF h35 hb
           refine rl.run 11 rfl (rl.done ?_)
           cases h36
           exact ⟨_, rfl, (Gh.ren0 [0] (.cells rfl rfl (.keep .int (.keep .int (.keep .int (.keep .int (.keep .int (.keep .str (.keep .str (.keep .str .nil)))))))) .nil) rfl (.cons rfl (.ptr rfl) (.cons rfl (.dat .bool) (.cons rfl (.dat .bool) .nil))))⟩
          ·have h37 := iteBT h35 hb
           refine rl.run 11 rfl (rl.done ?_)
           cases h37
           exact ⟨_, rfl, (Gh.ren0 [0] (.cells rfl rfl (.keep .int (.keep .int (.keep .int (.keep .int (.keep .int (.keep .str (.keep .str (.keep .str .nil)))))))) .nil) rfl (.cons rfl (.ptr rfl) (.cons rfl (.dat .bool) (.cons rfl (.dat .bool) .nil))))⟩
        ·intro y hC
         subst hC
         cases hb : y7
         ·have h38 := iteBF h30 hb
          refine RW.cond_f rfl (RW.skip (RW.seq (RW.seq ?_)))
          obtain ⟨y9, ey9, h39⟩ := bindS h38
          refine RW.cutq (σ := Bool) (fun y9 => [(1, .ptr 0 0), (109, .bool y9)]) (fun y9 => [some ⟨[.j x0.Kind, .j x0.Valid, .j x0.Uid, .j x0.Next, .j x0.Flags, .str x0.User, .str x0.Name, .str x0.Text], 0⟩]) (fun y => y9 = y) (fun _ _ _ _ g h => RW.gh g h) ?_ ?_
          ·refine RW.reg ?_
           refine rl.run 2 rfl ?_
           cases hb : y5
           ·have h40 := iteBF ey9 hb
            refine rl.run 11 rfl ?_
            refine rl.gen rfl rfl fun b hb => ?_
            cases b
            ·have h41 := iteBF h40 hb
             refine rl.run 2 rfl (rl.done ?_)
             cases h41
             exact ⟨_, rfl, (Gh.ren0 [0] (.cells rfl rfl (.keep .int (.keep .int (.keep .int (.keep .int (.keep .int (.keep .str (.keep .str (.keep .str .nil)))))))) .nil) rfl (.cons rfl (.ptr rfl) (.cons rfl (.dat .bool) .nil)))⟩
            ·have h42 := iteBT h40 hb
             refine rl.run 2 rfl (rl.done ?_)
             cases h42
             exact ⟨_, rfl, (Gh.ren0 [0] (.cells rfl rfl (.keep .int (.keep .int (.keep .int (.keep .int (.keep .int (.keep .str (.keep .str (.keep .str .nil)))))))) .nil) rfl (.cons rfl (.ptr rfl) (.cons rfl (.dat .bool) .nil)))⟩
           ·have h43 := iteBT ey9 hb
            refine rl.run 2 rfl ?_
            obtain ⟨v10, e10, h44⟩ := bindS h43
            refine rl.call rfl rfl rfl (CallW.val (r' := .bool v10) ok_spec_l01In (law_spec_l01In e10) (.cons .int (.cons .int (.cons .int .nil))) .refl ?_)
            cases hb : v10
            ·have h45 := iteBF h44 hb
             refine rl.run 11 rfl (rl.done ?_)
             cases h45
             exact ⟨_, rfl, (Gh.ren0 [0] (.cells rfl rfl (.keep .int (.keep .int (.keep .int (.keep .int (.keep .int (.keep .str (.keep .str (.keep .str .nil)))))))) .nil) rfl (.cons rfl (.ptr rfl) (.cons rfl (.dat .bool) .nil)))⟩
            ·have h46 := iteBT h44 hb
             refine rl.run 11 rfl (rl.done ?_)
             cases h46
             exact ⟨_, rfl, (Gh.ren0 [0] (.cells rfl rfl (.keep .int (.keep .int (.keep .int (.keep .int (.keep .int (.keep .str (.keep .str (.keep .str .nil)))))))) .nil) rfl (.cons rfl (.ptr rfl) (.cons rfl (.dat .bool) .nil)))⟩
          ·intro y hC
           subst hC
           cases hb : y9
           ·have h47 := iteBF h39 hb
            refine RW.cond_f rfl (RW.skip (RW.seq (RW.sreg (rl.run 2 rfl ?_))))
            refine rl.gen rfl rfl fun b hb => ?_
            cases b
            ·have h48 := iteBF h47 hb
             refine rl.done (RW.cond_f rfl (RW.skip (RW.sreg (rl.run 4 rfl (rl.done (RW.ret ?_))))))
             cases h48
             exact RRet.mk rfl .bool (by first | decide | simp)
            ·have h49 := iteBT h47 hb
             refine rl.done (RW.cond_t rfl (RW.sreg (rl.run 5 rfl (rl.done (RW.ret ?_)))))
             cases h49
             exact RRet.mk rfl .bool (by first | decide | simp)
           ·have h50 := iteBT h39 hb
            refine RW.cond_t rfl (RW.sreg (rl.run 1 rfl (rl.done (RW.ret ?_))))
            cases h50
            exact RRet.mk rfl .bool (by first | decide | simp)
         ·have h51 := iteBT h30 hb
          refine RW.cond_t rfl (RW.sreg (rl.run 1 rfl (rl.done (RW.ret ?_))))
          cases h51
          exact RRet.mk rfl .bool (by first | decide | simp)
       ·have h52 := iteBT h22 hb
        refine RW.cond_t rfl (RW.sreg (rl.run 1 rfl (rl.done (RW.ret ?_))))
        cases h52
        exact RRet.mk rfl .bool (by first | decide | simp)
   ·have h53 := iteBT h8 hb
    refine rl.run 1 rfl (rl.done (RW.seq ?_))
    obtain ⟨y11, ey11, h54⟩ := bindS h53
    refine RW.cutq (σ := Bool) (fun y11 => [(1, .ptr 0 0), (3, .bool true), (4, .bool y11)]) (fun y11 => [some ⟨[.j x0.Kind, .j x0.Valid, .j x0.Uid, .j x0.Next, .j x0.Flags, .str x0.User, .str x0.Name, .str x0.Text], 0⟩]) (fun y => y11 = y) (fun _ _ _ _ g h => RW.gh g h) ?_ ?_
    ·refine RW.reg ?_
     refine rl.run 2 rfl ?_
     refine rl.gen rfl rfl fun b hb => ?_
     cases b
     ·have h55 := iteBF ey11 hb
      refine rl.run 3 rfl ?_
      refine rl.gen rfl rfl fun b hb => ?_
      cases b
      ·have h56 := iteBF h55 hb
       refine rl.run 4 rfl ?_
       refine rl.gen rfl rfl fun b hb => ?_
       cases b
       ·have h57 := iteBF h56 hb
        refine rl.run 2 rfl (rl.done ?_)
        cases h57
        exact ⟨_, rfl, (Gh.ren0 [0] (.cells rfl rfl (.keep .int (.keep .int (.keep .int (.keep .int (.keep .int (.keep .str (.keep .str (.keep .str .nil)))))))) .nil) rfl (.cons rfl (.ptr rfl) (.cons rfl (.dat .bool) (.cons rfl (.dat .bool) .nil))))⟩
       ·have h58 := iteBT h56 hb
        refine rl.run 2 rfl (rl.done ?_)
        cases h58
        exact ⟨_, rfl, (Gh.ren0 [0] (.cells rfl rfl (.keep .int (.keep .int (.keep .int (.keep .int (.keep .int (.keep .str (.keep .str (.keep .str .nil)))))))) .nil) rfl (.cons rfl (.ptr rfl) (.cons rfl (.dat .bool) (.cons rfl (.dat .bool) .nil))))⟩
      ·have h59 := iteBT h55 hb
       refine rl.run 7 rfl (rl.done ?_)
       cases h59
       exact ⟨_, rfl, (Gh.ren0 [0] (.cells rfl rfl (.keep .int (.keep .int (.keep .int (.keep .int (.keep .int (.keep .str (.keep .str (.keep .str .nil)))))))) .nil) rfl (.cons rfl (.ptr rfl) (.cons rfl (.dat .bool) (.cons rfl (.dat .bool) .nil))))⟩
     ·have h60 := iteBT ey11 hb
      refine rl.run 11 rfl (rl.done ?_)
      cases h60
      exact ⟨_, rfl, (Gh.ren0 [0] (.cells rfl rfl (.keep .int (.keep .int (.keep .int (.keep .int (.keep .int (.keep .str (.keep .str (.keep .str .nil)))))))) .nil) rfl (.cons rfl (.ptr rfl) (.cons rfl (.dat .bool) (.cons rfl (.dat .bool) .nil))))⟩
    ·intro y hC
     subst hC
     refine RW.seq ?_
     obtain ⟨y12, ey12, h61⟩ := bindS h54
     refine RW.cutq (σ := Bool) (fun y12 => [(1, .ptr 0 0), (3, .bool true), (4, .bool y11), (5, .bool y12)]) (fun y12 => [some ⟨[.j x0.Kind, .j x0.Valid, .j x0.Uid, .j x0.Next, .j x0.Flags, .str x0.User, .str x0.Name, .str x0.Text], 0⟩]) (fun y => y12 = y) (fun _ _ _ _ g h => RW.gh g h) ?_ ?_
     ·refine RW.reg ?_
      refine rl.run 2 rfl ?_
      refine rl.gen rfl rfl fun b hb => ?_
      cases b
      ·have h62 := iteBF ey12 hb
       refine rl.run 3 rfl ?_
       refine rl.gen rfl rfl fun b hb => ?_
       cases b
       ·have h63 := iteBF h62 hb
        refine rl.run 2 rfl (rl.done ?_)
        cases h63
        exact ⟨_, rfl, (Gh.ren0 [0] (.cells rfl rfl (.keep .int (.keep .int (.keep .int (.keep .int (.keep .int (.keep .str (.keep .str (.keep .str .nil)))))))) .nil) rfl (.cons rfl (.ptr rfl) (.cons rfl (.dat .bool) (.cons rfl (.dat .bool) (.cons rfl (.dat .bool) .nil)))))⟩
       ·have h64 := iteBT h62 hb
        refine rl.run 2 rfl (rl.done ?_)
        cases h64
        exact ⟨_, rfl, (Gh.ren0 [0] (.cells rfl rfl (.keep .int (.keep .int (.keep .int (.keep .int (.keep .int (.keep .str (.keep .str (.keep .str .nil)))))))) .nil) rfl (.cons rfl (.ptr rfl) (.cons rfl (.dat .bool) (.cons rfl (.dat .bool) (.cons rfl (.dat .bool) .nil)))))⟩
      ·have h65 := iteBT ey12 hb
       refine rl.run 6 rfl (rl.done ?_)
       cases h65
       exact ⟨_, rfl, (Gh.ren0 [0] (.cells rfl rfl (.keep .int (.keep .int (.keep .int (.keep .int (.keep .int (.keep .str (.keep .str (.keep .str .nil)))))))) .nil) rfl (.cons rfl (.ptr rfl) (.cons rfl (.dat .bool) (.cons rfl (.dat .bool) (.cons rfl (.dat .bool) .nil)))))⟩
     ·intro y hC
      subst hC
      refine RW.seq (RW.seq ?_)
      obtain ⟨y13, ey13, h66⟩ := bindS h61
      refine RW.cutq (σ := Bool) (fun y13 => [(1, .ptr 0 0), (4, .bool y11), (5, .bool y12), (77, .bool y13)]) (fun y13 => [some ⟨[.j x0.Kind, .j x0.Valid, .j x0.Uid, .j x0.Next, .j x0.Flags, .str x0.User, .str x0.Name, .str x0.Text], 0⟩]) (fun y => y13 = y) (fun _ _ _ _ g h => RW.gh g h) ?_ ?_
      ·refine RW.reg ?_
       refine rl.run 4 rfl ?_
       obtain ⟨v14, e14, h67⟩ := bindS ey13
       refine rl.call rfl rfl rfl (CallW.val (r' := .bool v14) ok_spec_WordOk (law_spec_WordOk e14) (.cons .str .nil) .refl ?_)
       cases hb : v14
       ·have h68 := iteBF h67 hb
        refine rl.run 33 rfl (rl.done ?_)
        cases h68
        exact ⟨_, rfl, (Gh.ren0 [0] (.cells rfl rfl (.keep .int (.keep .int (.keep .int (.keep .int (.keep .int (.keep .str (.keep .str (.keep .str .nil)))))))) .nil) rfl (.cons rfl (.ptr rfl) (.cons rfl (.dat .bool) (.cons rfl (.dat .bool) (.cons rfl (.dat .bool) .nil)))))⟩
       ·have h69 := iteBT h67 hb
        refine rl.run 4 rfl ?_
        obtain ⟨v15, e15, h70⟩ := bindS h69
        refine rl.call rfl rfl rfl (CallW.val (r' := .bool v15) ok_spec_WordOk (law_spec_WordOk e15) (.cons .str .nil) .refl ?_)
        cases hb : v15
        ·have h71 := iteBF h70 hb
         refine rl.run 28 rfl (rl.done ?_)
         cases h71
         exact ⟨_, rfl, (Gh.ren0 [0] (.cells rfl rfl (.keep .int (.keep .int (.keep .int (.keep .int (.keep .int (.keep .str (.keep .str (.keep .str .nil)))))))) .nil) rfl (.cons rfl (.ptr rfl) (.cons rfl (.dat .bool) (.cons rfl (.dat .bool) (.cons rfl (.dat .bool) .nil)))))⟩
        ·have h72 := iteBT h70 hb
         refine rl.run 5 rfl ?_
         obtain ⟨v16, e16, h73⟩ := bindS h72
         refine rl.call rfl rfl rfl (CallW.val (r' := .bool v16) ok_spec_l01In (law_spec_l01In e16) (.cons .int (.cons .int (.cons .int .nil))) .refl ?_)
         cases hb : v16
         ·have h74 := iteBF h73 hb
          refine rl.run 22 rfl (rl.done ?_)
          cases h74
          exact ⟨_, rfl, (Gh.ren0 [0] (.cells rfl rfl (.keep .int (.keep .int (.keep .int (.keep .int (.keep .int (.keep .str (.keep .str (.keep .str .nil)))))))) .nil) rfl (.cons rfl (.ptr rfl) (.cons rfl (.dat .bool) (.cons rfl (.dat .bool) (.cons rfl (.dat .bool) .nil)))))⟩
         ·have h75 := iteBT h73 hb
          refine rl.run 22 rfl (rl.done ?_)
          cases h75
          exact ⟨_, rfl, (Gh.ren0 [0] (.cells rfl rfl (.keep .int (.keep .int (.keep .int (.keep .int (.keep .int (.keep .str (.keep .str (.keep .str .nil)))))))) .nil) rfl (.cons rfl (.ptr rfl) (.cons rfl (.dat .bool) (.cons rfl (.dat .bool) (.cons rfl (.dat .bool) .nil)))))⟩
      ·intro y hC
       subst hC
       cases hb : y13
       ·have h76 := iteBF h66 hb
        refine RW.cond_f rfl (RW.skip (RW.seq (RW.seq ?_)))
        obtain ⟨y17, ey17, h77⟩ := bindS h76
        refine RW.cutq (σ := Bool) (fun y17 => [(1, .ptr 0 0), (5, .bool y12), (93, .bool y17)]) (fun y17 => [some ⟨[.j x0.Kind, .j x0.Valid, .j x0.Uid, .j x0.Next, .j x0.Flags, .str x0.User, .str x0.Name, .str x0.Text], 0⟩]) (fun y => y17 = y) (fun _ _ _ _ g h => RW.gh g h) ?_ ?_
        ·refine RW.reg ?_
         refine rl.run 2 rfl ?_
         cases hb : y11
         ·have h78 := iteBF ey17 hb
          refine rl.run 11 rfl ?_
          refine rl.gen rfl rfl fun b hb => ?_
          cases b
          ·have h79 := iteBF h78 hb
           refine rl.run 2 rfl (rl.done ?_)
           cases h79
           exact ⟨_, rfl, (Gh.ren0 [0] (.cells rfl rfl (.keep .int (.keep .int (.keep .int (.keep .int (.keep .int (.keep .str (.keep .str (.keep .str .nil)))))))) .nil) rfl (.cons rfl (.ptr rfl) (.cons rfl (.dat .bool) (.cons rfl (.dat .bool) .nil))))⟩
          ·have h80 := iteBT h78 hb
           refine rl.run 2 rfl (rl.done ?_)
           cases h80
           exact ⟨_, rfl, (Gh.ren0 [0] (.cells rfl rfl (.keep .int (.keep .int (.keep .int (.keep .int (.keep .int (.keep .str (.keep .str (.keep .str .nil)))))))) .nil) rfl (.cons rfl (.ptr rfl) (.cons rfl (.dat .bool) (.cons rfl (.dat .bool) .nil))))⟩
         ·have h81 := iteBT ey17 hb
          refine rl.run 2 rfl ?_
          obtain ⟨v18, e18, h82⟩ := bindS h81
          refine rl.call rfl rfl rfl (CallW.val (r' := .bool v18) ok_spec_l01In (law_spec_l01In e18) (.cons .int (.cons .int (.cons .int .nil))) .refl ?_)
          cases hb : v18
          ·have h83 := iteBF h82 hb
           refine rl.run 11 rfl (rl.done ?_)
           cases h83
           exact ⟨_, rfl, (Gh.ren0 [0] (.cells rfl rfl (.keep .int (.keep .int (.keep .int (.keep .int (.keep .int (.keep .str (.keep .str (.keep .str .nil)))))))) .nil) rfl (.cons rfl (.ptr rfl) (.cons rfl (.dat .bool) (.cons rfl (.dat .bool) .nil))))⟩
          ·have h84 := iteBT h82 hb
           refine rl.run 11 rfl (rl.done ?_)
           cases h84
           exact ⟨_, rfl, (Gh.ren0 [0] (.cells rfl rfl (.keep .int (.keep .int (.keep .int (.keep .int (.keep .int (.keep .str (.keep .str (.keep .str .nil)))))))) .nil) rfl (.cons rfl (.ptr rfl) (.cons rfl (.dat .bool) (.cons rfl (.dat .bool) .nil))))⟩
        ·intro y hC
         subst hC
         cases hb : y17
         ·have h85 := iteBF h77 hb
          refine RW.cond_f rfl (RW.skip (RW.seq (RW.seq ?_)))
          obtain ⟨y19, ey19, h86⟩ := bindS h85
          refine RW.cutq (σ := Bool) (fun y19 => [(1, .ptr 0 0), (109, .bool y19)]) (fun y19 => [some ⟨[.j x0.Kind, .j x0.Valid, .j x0.Uid, .j x0.Next, .j x0.Flags, .str x0.User, .str x0.Name, .str x0.Text], 0⟩]) (fun y => y19 = y) (fun _ _ _ _ g h => RW.gh g h) ?_ ?_
          ·refine RW.reg ?_
           refine rl.run 2 rfl ?_
           cases hb : y12
           ·have h87 := iteBF ey19 hb
            refine rl.run 11 rfl ?_
            refine rl.gen rfl rfl fun b hb => ?_
            cases b
            ·have h88 := iteBF h87 hb
             refine rl.run 2 rfl (rl.done ?_)
             cases h88
             exact ⟨_, rfl, (Gh.ren0 [0] (.cells rfl rfl (.keep .int (.keep .int (.keep .int (.keep .int (.keep .int (.keep .str (.keep .str (.keep .str .nil)))))))) .nil) rfl (.cons rfl (.ptr rfl) (.cons rfl (.dat .bool) .nil)))⟩
            ·have h89 := iteBT h87 hb
             refine rl.run 2 rfl (rl.done ?_)
             cases h89
             exact ⟨_, rfl, (Gh.ren0 [0] (.cells rfl rfl (.keep .int (.keep .int (.keep .int (.keep .int (.keep .int (.keep .str (.keep .str (.keep .str .nil)))))))) .nil) rfl (.cons rfl (.ptr rfl) (.cons rfl (.dat .bool) .nil)))⟩
           ·have h90 := iteBT ey19 hb
            refine rl.run 2 rfl ?_
            obtain ⟨v20, e20, h91⟩ := bindS h90
            refine rl.call rfl rfl rfl (CallW.val (r' := .bool v20) ok_spec_l01In (law_spec_l01In e20) (.cons .int (.cons .int (.cons .int .nil))) .refl ?_)
            cases hb : v20
            ·have h92 := iteBF h91 hb
             refine rl.run 11 rfl (rl.done ?_)
             cases h92
             exact ⟨_, rfl, (Gh.ren0 [0] (.cells rfl rfl (.keep .int (.keep .int (.keep .int (.keep .int (.keep .int (.keep .str (.keep .str (.keep .str .nil)))))))) .nil) rfl (.cons rfl (.ptr rfl) (.cons rfl (.dat .bool) .nil)))⟩
            ·have h93 := iteBT h91 hb
             refine rl.run 11 rfl (rl.done ?_)
             cases h93
             exact ⟨_, rfl, (Gh.ren0 [0] (.cells rfl rfl (.keep .int (.keep .int (.keep .int (.keep .int (.keep .int (.keep .str (.keep .str (.keep .str .nil)))))))) .nil) rfl (.cons rfl (.ptr rfl) (.cons rfl (.dat .bool) .nil)))⟩
          ·intro y hC
           subst hC
           cases hb : y19
           ·have h94 := iteBF h86 hb
            refine RW.cond_f rfl (RW.skip (RW.seq (RW.sreg (rl.run 2 rfl ?_))))
            refine rl.gen rfl rfl fun b hb => ?_
            cases b
            ·have h95 := iteBF h94 hb
             refine rl.done (RW.cond_f rfl (RW.skip (RW.sreg (rl.run 4 rfl (rl.done (RW.ret ?_))))))
             cases h95
             exact RRet.mk rfl .bool (by first | decide | simp)
            ·have h96 := iteBT h94 hb
             refine rl.done (RW.cond_t rfl (RW.sreg (rl.run 5 rfl (rl.done (RW.ret ?_)))))
             cases h96
             exact RRet.mk rfl .bool (by first | decide | simp)
           ·have h97 := iteBT h86 hb
            refine RW.cond_t rfl (RW.sreg (rl.run 1 rfl (rl.done (RW.ret ?_))))
            cases h97
            exact RRet.mk rfl .bool (by first | decide | simp)
         ·have h98 := iteBT h77 hb
          refine RW.cond_t rfl (RW.sreg (rl.run 1 rfl (rl.done (RW.ret ?_))))
          cases h98
          exact RRet.mk rfl .bool (by first | decide | simp)
       ·have h99 := iteBT h66 hb
        refine RW.cond_t rfl (RW.sreg (rl.run 1 rfl (rl.done (RW.ret ?_))))
        cases h99
        exact RRet.mk rfl .bool (by first | decide | simp)
  ·have h100 := iteBT h1 hb
   refine RW.cond_t rfl (RW.sreg (rl.run 1 rfl (rl.done (RW.ret ?_))))
   cases h100
   exact RRet.mk rfl .bool (by first | decide | simp)
set_option maxHeartbeats 2000000 in
theorem law_spec_ItemsOk {x0 : List TItem} {r : Bool} (hF : F_spec_ItemsOk x0 = some r) : PCalls Tryz.prog 93 [L_TItem x0] (.bool r) := by
 refine PCalls.of_r k_spec_ItemsOk rfl ?_
 unfold F_spec_ItemsOk at hF
 refine RW.sreg (rl.run 1 rfl (rl.done (RW.seq (RW.sreg (rl.run 1 rfl (rl.done ?_))))))
 obtain ⟨y16, ey16, h2⟩ := bindS hF
 refine RW.cutq (σ := Unit) (fun y2 => [(0, L_TItem x0)]) (fun y2 => []) (fun y => y16 = .inr y) (fun _ _ _ _ g h => RW.gh g h) ?_ ?_
 ·refine RW.blk ?_
  refine RW.iter (σ := Int) ey16 (fun s1 => [(0, L_TItem x0), (3, .j s1)]) (fun s1 => []) (Gh.ren0 [] .nil rfl (.cons rfl (.dat (ek_TItem.rlst)) (.cons rfl (.dat .int) .nil))) (fun s1 B o hS1 hB1 hE1 => ?_)
  unfold S_spec_ItemsOk_1 at hS1
  refine RW.seq (RW.sreg (rl.run 3 rfl ?_))
  refine rl.gen rfl rfl fun b hb => ?_
  cases b
  ·have h3 := iteBF hS1 hb
   refine rl.done (RW.cond_f rfl (RW.exit (blkA_eq ?_)))
   cases h3
   exact ⟨_, (hE1 _ rfl).symm, (Gh.ren0 [] .nil rfl (.cons rfl (.dat (ek_TItem.rlst)) .nil))⟩
  ·have h4 := iteBT hS1 hb
   refine rl.done (RW.cond_t rfl (RW.skip (RW.seq (RW.blk (RW.seq (RW.seq ?_))))))
   obtain ⟨y3, ey3, h5⟩ := bindS h4
   refine RW.cutq (σ := Bool) (fun y3 => [(0, L_TItem x0), (3, .j s1), (26, .bool y3)]) (fun y3 => []) (fun y => y3 = y) (fun _ _ _ _ g h => RW.gh g h) ?_ ?_
   ·refine RW.reg ?_
    refine rl.run 2 rfl ?_
    obtain ⟨v4, e4, h6⟩ := bindS ey3
    refine rl.op (x_ia_lst (enc := enc_TItem) (o := false) rfl rfl rfl e4) ?_
    refine rl.run 1 rfl ?_
    refine rl.op (x_ld_el (off' := 0) ek_TItem rfl e4 rfl rfl rfl) ?_
    obtain ⟨v5, e5, h7⟩ := bindS h6
    refine rl.call rfl rfl rfl (CallW.val (r' := .bool v5) ok_spec_l01In (law_spec_l01In e5) (.cons .int (.cons .int (.cons .int .nil))) .refl ?_)
    cases hb : v5
    ·have h8 := iteBF h7 hb
     refine rl.run 10 rfl (rl.done ?_)
     cases h8
     exact ⟨_, rfl, (Gh.ren0 [] .nil rfl (.cons rfl (.dat (ek_TItem.rlst)) (.cons rfl (.dat .int) (.cons rfl (.dat .bool) .nil))))⟩
    ·have h9 := iteBT h7 hb
     refine rl.run 4 rfl ?_
     obtain ⟨v6, e6, h10⟩ := bindS h9
     refine rl.gop rfl (x_ia_lst (enc := enc_TItem) (o := false) rfl rfl rfl e6) ?_
     refine rl.run 1 rfl ?_
     refine rl.gop rfl (x_ld_ela (off' := 1) (vs := (enc_TRec false v6.Rec)) ek_TItem rfl e6 rfl rfl rfl) ?_
     obtain ⟨v7, e7, h11⟩ := bindS h10
     refine rl.call rfl rfl rfl (CallW.val (r' := .bool v7) ok_spec_RecOk (law_spec_RecOk e7) (.cons (.dat (.agg (ek_TRec.dat false _))) .nil) .refl ?_)
     cases hb : v7
     ·have h12 := iteBF h11 hb
      refine rl.run 2 rfl (rl.done ?_)
      cases h12
      exact ⟨_, rfl, (Gh.ren0 [] .nil rfl (.cons rfl (.dat (ek_TItem.rlst)) (.cons rfl (.dat .int) (.cons rfl (.dat .bool) .nil))))⟩
     ·have h13 := iteBT h11 hb
      refine rl.run 2 rfl (rl.done ?_)
      cases h13
      exact ⟨_, rfl, (Gh.ren0 [] .nil rfl (.cons rfl (.dat (ek_TItem.rlst)) (.cons rfl (.dat .int) (.cons rfl (.dat .bool) .nil))))⟩
   ·intro y hC
    subst hC
    cases hb : y3
    ·have h14 := iteBF h5 hb
     refine RW.cond_f rfl (RW.skip (RW.sreg (rl.run 1 rfl (rl.done ?_))))
     obtain ⟨y15, ey15, h16⟩ := bindS h14
     refine RW.cutq (σ := Unit) (fun y9 => [(0, L_TItem x0), (3, .j s1)]) (fun y9 => []) (fun y => y15 = .inr y) (fun _ _ _ _ g h => RW.gh g h) ?_ ?_
     ·refine RW.blk ?_
      refine RW.iter (σ := Int) ey15 (fun s8 => [(0, L_TItem x0), (3, .j s1), (4, .j s8)]) (fun s8 => []) (Gh.ren0 [] .nil rfl (.cons rfl (.dat (ek_TItem.rlst)) (.cons rfl (.dat .int) (.cons rfl (.dat .int) .nil)))) (fun s8 B o hS15 hB15 hE15 => ?_)
      unfold S_spec_ItemsOk_2 at hS15
      refine RW.seq (RW.sreg (rl.run 2 rfl ?_))
      refine rl.gen rfl rfl fun b hb => ?_
      cases b
      ·have h17 := iteBF hS15 hb
       refine rl.done (RW.cond_f rfl (RW.exit (blkA_eq ?_)))
       cases h17
       exact ⟨_, (hE15 _ rfl).symm, (Gh.ren0 [] .nil rfl (.cons rfl (.dat (ek_TItem.rlst)) (.cons rfl (.dat .int) .nil)))⟩
      ·have h18 := iteBT hS15 hb
       refine rl.done (RW.cond_t rfl (RW.skip (RW.seq (RW.blk (RW.seq ?_)))))
       obtain ⟨y10, ey10, h19⟩ := bindS h18
       refine RW.cutq (σ := Bool) (fun y10 => [(0, L_TItem x0), (3, .j s1), (4, .j s8), (53, .bool y10)]) (fun y10 => []) (fun y => y10 = y) (fun _ _ _ _ g h => RW.gh g h) ?_ ?_
       ·refine RW.drw ?_
        refine rdraw.op rfl rfl (rdraw.op rfl rfl ?_)
        obtain ⟨v11, e11, h20⟩ := bindS ey10
        refine rdraw.op rfl (x_ia_lst (enc := enc_TItem) (o := false) rfl rfl rfl e11) ?_
        refine rdraw.op rfl rfl ?_
        refine rdraw.op rfl (x_ld_el (off' := 0) ek_TItem rfl e11 rfl rfl rfl) ?_
        refine rdraw.op rfl rfl (rdraw.op rfl rfl ?_)
        obtain ⟨v12, e12, h21⟩ := bindS h20
        refine rdraw.op rfl (x_ia_lst (enc := enc_TItem) (o := false) rfl rfl rfl e12) ?_
        refine rdraw.op rfl rfl ?_
        refine rdraw.op rfl (x_ld_el (off' := 0) ek_TItem rfl e12 rfl rfl rfl) ?_
        refine rdraw.gen rfl rfl fun b hb => ?_
        cases b
        ·have h22 := iteBF h21 hb
         refine rdraw.op rfl rfl (rdraw.off rfl (rdraw.off rfl (rdraw.off rfl (rdraw.off rfl (rdraw.off rfl (rdraw.off rfl (rdraw.off rfl (rdraw.off rfl (rdraw.off rfl (rdraw.op rfl rfl (rdraw.done ?_)))))))))))
         cases h22
         exact ⟨_, rfl, (Gh.ren0 [] .nil rfl (.cons rfl (.dat (ek_TItem.rlst)) (.cons rfl (.dat .int) (.cons rfl (.dat .int) (.cons rfl (.dat .bool) .nil)))))⟩
        ·have h23 := iteBT h21 hb
         refine rdraw.op rfl rfl (rdraw.op rfl rfl (rdraw.op rfl rfl ?_))
         obtain ⟨v13, e13, h24⟩ := bindS h23
         refine rdraw.op rfl (x_ia_lst (enc := enc_TItem) (o := false) rfl rfl rfl e13) ?_
         refine rdraw.op rfl (x_ld_ela (off' := 0) (vs := (enc_TItem false v13)) ek_TItem rfl e13 rfl rfl rfl) ?_
         refine rdraw.op rfl rfl (rdraw.op rfl rfl ?_)
         obtain ⟨v14, e14, h25⟩ := bindS h24
         refine rdraw.op rfl (x_ia_lst (enc := enc_TItem) (o := false) rfl rfl rfl e14) ?_
         refine rdraw.op rfl (x_ld_ela (off' := 0) (vs := (enc_TItem false v14)) ek_TItem rfl e14 rfl rfl rfl) ?_
         refine rdraw.gen rfl rfl fun b hb => ?_
         cases b
         ·have h26 := iteBF h25 hb
          refine rdraw.op rfl rfl (rdraw.done ?_)
          cases h26
          exact ⟨_, rfl, (Gh.ren0 [] .nil rfl (.cons rfl (.dat (ek_TItem.rlst)) (.cons rfl (.dat .int) (.cons rfl (.dat .int) (.cons rfl (.dat .bool) .nil)))))⟩
         ·have h27 := iteBT h25 hb
          refine rdraw.op rfl rfl (rdraw.done ?_)
          cases h27
          exact ⟨_, rfl, (Gh.ren0 [] .nil rfl (.cons rfl (.dat (ek_TItem.rlst)) (.cons rfl (.dat .int) (.cons rfl (.dat .int) (.cons rfl (.dat .bool) .nil)))))⟩
       ·intro y hC
        subst hC
        cases hb : y10
        ·have h28 := iteBF h19 hb
         refine RW.cond_f rfl (RW.skip (RW.reg (rl.run 3 rfl (rl.done ?_))))
         cases h28
         exact hB15 _ rfl _ _ (Gh.ren0 [] .nil rfl (.cons rfl (.dat (ek_TItem.rlst)) (.cons rfl (.dat .int) (.cons rfl (.dat .int) .nil))))
        ·have h29 := iteBT h19 hb
         refine RW.cond_t rfl (RW.sreg (rl.run 1 rfl (rl.done (RW.ret ?_))))
         cases h29
         have h30 := elimL h16 (hE15 _ rfl)
         cases h30
         have h31 := elimL h2 (hE1 _ rfl)
         cases h31
         exact RRet.mk rfl .bool (by first | decide | simp)
     ·intro y9 hC
      have h16 := elimR h16 hC
      refine RW.reg (rl.run 3 rfl (rl.done ?_))
      cases h16
      exact hB1 _ rfl _ _ (Gh.ren0 [] .nil rfl (.cons rfl (.dat (ek_TItem.rlst)) (.cons rfl (.dat .int) .nil)))
    ·have h32 := iteBT h5 hb
     refine RW.cond_t rfl (RW.sreg (rl.run 1 rfl (rl.done (RW.ret ?_))))
     cases h32
     have h33 := elimL h2 (hE1 _ rfl)
     cases h33
     exact RRet.mk rfl .bool (by first | decide | simp)
 ·intro y2 hC
  have h2 := elimR h2 hC
  refine RW.sreg (rl.run 4 rfl (rl.done (RW.ret ?_)))
  cases h2
  exact RRet.mk rfl .bool (by first | decide | simp)
set_option maxHeartbeats 2000000 in
theorem law_spec_l07Best {x0 : List TItem} {x1 : Int} {x2 : Int} {x3 : Int} {r : TItem × Bool} (hF : F_spec_l07Best x0 x1 x2 x3 = some r) : PCalls Tryz.prog 94 [L_TItem x0, .j x1, .j x2, .j x3] (.tup [.agg (enc_TItem true r.1), .bool r.2]) := by
 refine PCalls.of_r k_spec_l07Best rfl ?_
 unfold F_spec_l07Best at hF
 refine RW.sreg (rl.run 2 rfl (rl.done (RW.sreg (rl.run 3 rfl (rl.done (RW.sreg (rl.run 1 rfl (rl.done (RW.seq (RW.sreg (rl.run 1 rfl ?_)))))))))))
 refine rl.done ?_
 obtain ⟨y5, ey5, h2⟩ := bindS hF
 refine RW.cutq (σ := Bool × Int × Int × Int × Int × Int × Int × (List UInt8) × (List UInt8) × (List UInt8)) (fun y2 => [(8, .ptr 0 0), (10, .ptr 1 0), (11, .bool y2.1)]) (fun y2 => [some ⟨[.j 0, .j 0, .j 0, .j 0, .j 0, .j 0, .str [], .str [], .str []], 0⟩, some ⟨[.j y2.2.1, .j y2.2.2.1, .j y2.2.2.2.1, .j y2.2.2.2.2.1, .j y2.2.2.2.2.2.1, .j y2.2.2.2.2.2.2.1, .str y2.2.2.2.2.2.2.2.1, .str y2.2.2.2.2.2.2.2.2.1, .str y2.2.2.2.2.2.2.2.2.2], 0⟩]) (fun y => y5 = y) (fun _ _ _ _ g h => RW.gh g h) ?_ ?_
 ·refine RW.blk ?_
  refine RW.iter (σ := Bool × Int × Int × Int × Int × Int × Int × Int × (List UInt8) × (List UInt8) × (List UInt8)) ey5 (fun s1 => [(0, L_TItem x0), (1, .j x1), (2, .j x2), (3, .j x3), (8, .ptr 0 0), (10, .ptr 1 0), (11, .bool s1.1), (12, .j s1.2.1)]) (fun s1 => [some ⟨[.j 0, .j 0, .j 0, .j 0, .j 0, .j 0, .str [], .str [], .str []], 0⟩, some ⟨[.j s1.2.2.1, .j s1.2.2.2.1, .j s1.2.2.2.2.1, .j s1.2.2.2.2.2.1, .j s1.2.2.2.2.2.2.1, .j s1.2.2.2.2.2.2.2.1, .str s1.2.2.2.2.2.2.2.2.1, .str s1.2.2.2.2.2.2.2.2.2.1, .str s1.2.2.2.2.2.2.2.2.2.2], 0⟩]) (Gh.ren0 [0, 1] (.cells rfl rfl (.keep .int (.keep .int (.keep .int (.keep .int (.keep .int (.keep .int (.keep .str (.keep .str (.keep .str .nil))))))))) (.cells rfl rfl (.keep .int (.keep .int (.keep .int (.keep .int (.keep .int (.keep .int (.keep .str (.keep .str (.keep .str .nil))))))))) .nil)) rfl (.cons rfl (.dat (ek_TItem.rlst)) (.cons rfl (.dat .int) (.cons rfl (.dat .int) (.cons rfl (.dat .int) (.cons rfl (.ptr rfl) (.cons rfl (.ptr rfl) (.cons rfl (.dat .bool) (.cons rfl (.dat .int) .nil))))))))) (fun s1 B o hS1 hB1 hE1 => ?_)
  unfold S_spec_l07Best_1 at hS1
  refine RW.seq (RW.sreg (rl.run 3 rfl ?_))
  refine rl.gen rfl rfl fun b hb => ?_
  cases b
  ·have h3 := iteBF hS1 hb
   refine rl.done (RW.cond_f rfl (RW.exit (blkA_eq ?_)))
   cases h3
   exact ⟨_, (hE1 _ rfl).symm, (Gh.ren0 [0, 1] (.cells rfl rfl (.keep .int (.keep .int (.keep .int (.keep .int (.keep .int (.keep .int (.keep .str (.keep .str (.keep .str .nil))))))))) (.cells rfl rfl (.keep .int (.keep .int (.keep .int (.keep .int (.keep .int (.keep .int (.keep .str (.keep .str (.keep .str .nil))))))))) .nil)) rfl (.cons rfl (.ptr rfl) (.cons rfl (.ptr rfl) (.cons rfl (.dat .bool) .nil))))⟩
  ·have h4 := iteBT hS1 hb
   refine rl.done (RW.cond_t rfl (RW.skip (RW.seq (RW.blk (RW.sreg (rl.run 2 rfl ?_))))))
   obtain ⟨v3, e3, h5⟩ := bindS h4
   refine rl.op (x_ia_lst (enc := enc_TItem) (o := false) rfl rfl rfl e3) ?_
   refine rl.op (x_ld_ela (off' := 0) (vs := (enc_TItem false v3)) ek_TItem rfl e3 rfl rfl rfl) ?_
   refine rl.run 2 rfl (rl.done (RW.seq ?_))
   obtain ⟨y4, ey4, h6⟩ := bindS h5
   refine RW.cutq (σ := Bool) (fun y4 => [(0, L_TItem x0), (1, .j x1), (2, .j x2), (3, .j x3), (8, .ptr 0 0), (10, .ptr 1 0), (11, .bool s1.1), (12, .j s1.2.1), (13, .ptr 2 0), (54, .bool y4)]) (fun y4 => [some ⟨[.j 0, .j 0, .j 0, .j 0, .j 0, .j 0, .str [], .str [], .str []], 0⟩, some ⟨[.j s1.2.2.1, .j s1.2.2.2.1, .j s1.2.2.2.2.1, .j s1.2.2.2.2.2.1, .j s1.2.2.2.2.2.2.1, .j s1.2.2.2.2.2.2.2.1, .str s1.2.2.2.2.2.2.2.2.1, .str s1.2.2.2.2.2.2.2.2.2.1, .str s1.2.2.2.2.2.2.2.2.2.2], 0⟩, some ⟨[.j v3.Seq, .j v3.Rec.Kind, .j v3.Rec.Valid, .j v3.Rec.Uid, .j v3.Rec.Next, .j v3.Rec.Flags, .str v3.Rec.User, .str v3.Rec.Name, .str v3.Rec.Text], 0⟩]) (fun y => y4 = y) (fun _ _ _ _ g h => RW.gh g h) ?_ ?_
   ·refine RW.reg ?_
    refine rl.run 4 rfl ?_
    refine rl.gen rfl rfl fun b hb => ?_
    cases b
    ·have h7 := iteBF ey4 hb
     refine rl.run 25 rfl (rl.done ?_)
     cases h7
     exact ⟨_, rfl, (Gh.ren0 [0, 1, 2] (.cells rfl rfl (.keep .int (.keep .int (.keep .int (.keep .int (.keep .int (.keep .int (.keep .str (.keep .str (.keep .str .nil))))))))) (.cells rfl rfl (.keep .int (.keep .int (.keep .int (.keep .int (.keep .int (.keep .int (.keep .str (.keep .str (.keep .str .nil))))))))) (.cells rfl rfl (.keep .int (.keep .int (.keep .int (.keep .int (.keep .int (.keep .int (.keep .str (.keep .str (.keep .str .nil))))))))) .nil))) rfl (.cons rfl (.dat (ek_TItem.rlst)) (.cons rfl (.dat .int) (.cons rfl (.dat .int) (.cons rfl (.dat .int) (.cons rfl (.ptr rfl) (.cons rfl (.ptr rfl) (.cons rfl (.dat .bool) (.cons rfl (.dat .int) (.cons rfl (.ptr rfl) (.cons rfl (.dat .bool) .nil)))))))))))⟩
    ·have h8 := iteBT ey4 hb
     refine rl.run 5 rfl ?_
     refine rl.gen rfl rfl fun b hb => ?_
     cases b
     ·have h9 := iteBF h8 hb
      refine rl.run 19 rfl (rl.done ?_)
      cases h9
      exact ⟨_, rfl, (Gh.ren0 [0, 1, 2] (.cells rfl rfl (.keep .int (.keep .int (.keep .int (.keep .int (.keep .int (.keep .int (.keep .str (.keep .str (.keep .str .nil))))))))) (.cells rfl rfl (.keep .int (.keep .int (.keep .int (.keep .int (.keep .int (.keep .int (.keep .str (.keep .str (.keep .str .nil))))))))) (.cells rfl rfl (.keep .int (.keep .int (.keep .int (.keep .int (.keep .int (.keep .int (.keep .str (.keep .str (.keep .str .nil))))))))) .nil))) rfl (.cons rfl (.dat (ek_TItem.rlst)) (.cons rfl (.dat .int) (.cons rfl (.dat .int) (.cons rfl (.dat .int) (.cons rfl (.ptr rfl) (.cons rfl (.ptr rfl) (.cons rfl (.dat .bool) (.cons rfl (.dat .int) (.cons rfl (.ptr rfl) (.cons rfl (.dat .bool) .nil)))))))))))⟩
     ·have h10 := iteBT h8 hb
      refine rl.run 6 rfl ?_
      refine rl.gen rfl rfl fun b hb => ?_
      cases b
      ·have h11 := iteBF h10 hb
       refine rl.run 12 rfl (rl.done ?_)
       cases h11
       exact ⟨_, rfl, (Gh.ren0 [0, 1, 2] (.cells rfl rfl (.keep .int (.keep .int (.keep .int (.keep .int (.keep .int (.keep .int (.keep .str (.keep .str (.keep .str .nil))))))))) (.cells rfl rfl (.keep .int (.keep .int (.keep .int (.keep .int (.keep .int (.keep .int (.keep .str (.keep .str (.keep .str .nil))))))))) (.cells rfl rfl (.keep .int (.keep .int (.keep .int (.keep .int (.keep .int (.keep .int (.keep .str (.keep .str (.keep .str .nil))))))))) .nil))) rfl (.cons rfl (.dat (ek_TItem.rlst)) (.cons rfl (.dat .int) (.cons rfl (.dat .int) (.cons rfl (.dat .int) (.cons rfl (.ptr rfl) (.cons rfl (.ptr rfl) (.cons rfl (.dat .bool) (.cons rfl (.dat .int) (.cons rfl (.ptr rfl) (.cons rfl (.dat .bool) .nil)))))))))))⟩
      ·have h12 := iteBT h10 hb
       refine rl.run 5 rfl ?_
       cases hb : (!s1.1)
       ·have h13 := iteBF h12 hb
        refine rl.run 4 rfl ?_
        refine rl.gen rfl rfl fun b hb => ?_
        cases b
        ·have h14 := iteBF h13 hb
         refine rl.run 2 rfl (rl.done ?_)
         cases h14
         exact ⟨_, rfl, (Gh.ren0 [0, 1, 2] (.cells rfl rfl (.keep .int (.keep .int (.keep .int (.keep .int (.keep .int (.keep .int (.keep .str (.keep .str (.keep .str .nil))))))))) (.cells rfl rfl (.keep .int (.keep .int (.keep .int (.keep .int (.keep .int (.keep .int (.keep .str (.keep .str (.keep .str .nil))))))))) (.cells rfl rfl (.keep .int (.keep .int (.keep .int (.keep .int (.keep .int (.keep .int (.keep .str (.keep .str (.keep .str .nil))))))))) .nil))) rfl (.cons rfl (.dat (ek_TItem.rlst)) (.cons rfl (.dat .int) (.cons rfl (.dat .int) (.cons rfl (.dat .int) (.cons rfl (.ptr rfl) (.cons rfl (.ptr rfl) (.cons rfl (.dat .bool) (.cons rfl (.dat .int) (.cons rfl (.ptr rfl) (.cons rfl (.dat .bool) .nil)))))))))))⟩
        ·have h15 := iteBT h13 hb
         refine rl.run 2 rfl (rl.done ?_)
         cases h15
         exact ⟨_, rfl, (Gh.ren0 [0, 1, 2] (.cells rfl rfl (.keep .int (.keep .int (.keep .int (.keep .int (.keep .int (.keep .int (.keep .str (.keep .str (.keep .str .nil))))))))) (.cells rfl rfl (.keep .int (.keep .int (.keep .int (.keep .int (.keep .int (.keep .int (.keep .str (.keep .str (.keep .str .nil))))))))) (.cells rfl rfl (.keep .int (.keep .int (.keep .int (.keep .int (.keep .int (.keep .int (.keep .str (.keep .str (.keep .str .nil))))))))) .nil))) rfl (.cons rfl (.dat (ek_TItem.rlst)) (.cons rfl (.dat .int) (.cons rfl (.dat .int) (.cons rfl (.dat .int) (.cons rfl (.ptr rfl) (.cons rfl (.ptr rfl) (.cons rfl (.dat .bool) (.cons rfl (.dat .int) (.cons rfl (.ptr rfl) (.cons rfl (.dat .bool) .nil)))))))))))⟩
       ·have h16 := iteBT h12 hb
        refine rl.run 7 rfl (rl.done ?_)
        cases h16
        exact ⟨_, rfl, (Gh.ren0 [0, 1, 2] (.cells rfl rfl (.keep .int (.keep .int (.keep .int (.keep .int (.keep .int (.keep .int (.keep .str (.keep .str (.keep .str .nil))))))))) (.cells rfl rfl (.keep .int (.keep .int (.keep .int (.keep .int (.keep .int (.keep .int (.keep .str (.keep .str (.keep .str .nil))))))))) (.cells rfl rfl (.keep .int (.keep .int (.keep .int (.keep .int (.keep .int (.keep .int (.keep .str (.keep .str (.keep .str .nil))))))))) .nil))) rfl (.cons rfl (.dat (ek_TItem.rlst)) (.cons rfl (.dat .int) (.cons rfl (.dat .int) (.cons rfl (.dat .int) (.cons rfl (.ptr rfl) (.cons rfl (.ptr rfl) (.cons rfl (.dat .bool) (.cons rfl (.dat .int) (.cons rfl (.ptr rfl) (.cons rfl (.dat .bool) .nil)))))))))))⟩
   ·intro y hC
    subst hC
    cases hb : y4
    ·have h17 := iteBF h6 hb
     refine RW.cond_f rfl (RW.skip (RW.reg (rl.run 3 rfl (rl.done ?_))))
     cases h17
     exact hB1 _ rfl _ _ (Gh.ren0 [0, 1] (.cells rfl rfl (.keep .int (.keep .int (.keep .int (.keep .int (.keep .int (.keep .int (.keep .str (.keep .str (.keep .str .nil))))))))) (.cells rfl rfl (.keep .int (.keep .int (.keep .int (.keep .int (.keep .int (.keep .int (.keep .str (.keep .str (.keep .str .nil))))))))) .nil)) rfl (.cons rfl (.dat (ek_TItem.rlst)) (.cons rfl (.dat .int) (.cons rfl (.dat .int) (.cons rfl (.dat .int) (.cons rfl (.ptr rfl) (.cons rfl (.ptr rfl) (.cons rfl (.dat .bool) (.cons rfl (.dat .int) .nil)))))))))
    ·have h18 := iteBT h6 hb
     refine RW.cond_t rfl (RW.sreg (rl.run 2 rfl (rl.done (RW.reg (rl.run 1 rfl (rl.done (RW.reg (rl.run 3 rfl (rl.done ?_)))))))))
     cases h18
     exact hB1 _ rfl _ _ (Gh.ren0 [0, 1] (.cells rfl rfl (.keep .int (.keep .int (.keep .int (.keep .int (.keep .int (.keep .int (.keep .str (.keep .str (.keep .str .nil))))))))) (.cells rfl rfl (.keep .int (.keep .int (.keep .int (.keep .int (.keep .int (.keep .int (.keep .str (.keep .str (.keep .str .nil))))))))) .nil)) rfl (.cons rfl (.dat (ek_TItem.rlst)) (.cons rfl (.dat .int) (.cons rfl (.dat .int) (.cons rfl (.dat .int) (.cons rfl (.ptr rfl) (.cons rfl (.ptr rfl) (.cons rfl (.dat .bool) (.cons rfl (.dat .int) .nil)))))))))
 ·intro y2 hC
  subst hC
  refine RW.sreg (rl.run 4 rfl (rl.done (RW.ret ?_)))
  cases h2
  exact RRet.mk rfl (OutT.tup (.cons (OutL.agg (.cons .int rfl (.cons .int rfl (.cons .int rfl (.cons .int rfl (.cons .int rfl (.cons .int rfl (.cons .str rfl (.cons .str rfl (.cons .str rfl .nil)))))))))) (.cons .bool .nil))) (by first | decide | simp)
set_option maxHeartbeats 2000000 in
theorem law_spec_l07Sorted {x0 : List Int} {x1 : Int} {r : List Int} (hF : F_spec_l07Sorted x0 x1 = some r) : PCalls Tryz.prog 95 [L_I x0, .j x1] (.lst true 1 (fl (encI true) r) r.length) := by
 refine PCalls.of_r k_spec_l07Sorted rfl ?_
 unfold F_spec_l07Sorted at hF
 refine RW.sreg (rl.run 1 rfl (rl.done (RW.sreg (rl.run 2 rfl (rl.done (RW.seq (RW.sreg (rl.run 1 rfl (rl.done ?_)))))))))
 refine RW.gh (Gh.nil_t 5 1 rfl) ?_
 obtain ⟨y6, ey6, h2⟩ := bindS hF
 refine RW.cutq (σ := (List Int)) (fun y2 => [(0, L_I x0), (1, .j x1), (5, .sl 0 0 y2.length)]) (fun y2 => [some ⟨fl (encI true) y2, 1⟩]) (fun y => y6 = y) (fun _ _ _ _ g h => RW.gh g h) ?_ ?_
 ·refine RW.blk ?_
  refine RW.iter (σ := Int × (List Int)) ey6 (fun s1 => [(0, L_I x0), (1, .j x1), (5, .sl 0 0 s1.2.length), (6, .j s1.1)]) (fun s1 => [some ⟨fl (encI true) s1.2, 1⟩]) (Gh.ren0 [0] (.same rfl (ekI.fref _ _) .nil) rfl (.cons rfl (.dat (ekI.rlst)) (.cons rfl (.dat .int) (.cons rfl (.slq rfl rfl) (.cons rfl (.dat .int) .nil))))) (fun s1 B o hS1 hB1 hE1 => ?_)
  unfold S_spec_l07Sorted_1 at hS1
  refine RW.seq (RW.sreg (rl.run 3 rfl ?_))
  refine rl.gen rfl rfl fun b hb => ?_
  cases b
  ·have h3 := iteBF hS1 hb
   refine rl.done (RW.cond_f rfl (RW.exit (blkA_eq ?_)))
   cases h3
   exact ⟨_, (hE1 _ rfl).symm, (Gh.ren0 [0] (.same rfl (ekI.fref _ _) .nil) rfl (.cons rfl (.dat (ekI.rlst)) (.cons rfl (.dat .int) (.cons rfl (.slq rfl rfl) .nil))))⟩
  ·have h4 := iteBT hS1 hb
   refine rl.done (RW.cond_t rfl (RW.skip (RW.seq (RW.blk (RW.sreg (rl.run 2 rfl ?_))))))
   obtain ⟨v3, e3, h5⟩ := bindS h4
   refine rl.op (x_ia_lst (enc := encI) (o := false) rfl rfl rfl e3) ?_
   refine rl.op (x_ld_el (off' := 0) ekI rfl e3 rfl rfl rfl) ?_
   refine rl.run 1 rfl ?_
   refine rl.gen rfl rfl fun b hb => ?_
   cases b
   ·have h6 := iteBF h5 hb
    refine rl.done (RW.cond_f rfl (RW.skip (RW.reg (rl.run 3 rfl (rl.done ?_)))))
    cases h6
    exact hB1 _ rfl _ _ (Gh.ren0 [0] (.same rfl (ekI.fref _ _) .nil) rfl (.cons rfl (.dat (ekI.rlst)) (.cons rfl (.dat .int) (.cons rfl (.slq rfl rfl) (.cons rfl (.dat .int) .nil)))))
   ·have h7 := iteBT h5 hb
    refine rl.done (RW.cond_t rfl (RW.reg (rl.run 3 rfl ?_)))
    obtain ⟨v4, e4, h8⟩ := bindS h7
    refine rl.op (x_ia_lst (enc := encI) (o := false) rfl rfl rfl e4) ?_
    refine rl.op (x_ld_el (off' := 0) ekI rfl e4 rfl rfl rfl) ?_
    refine rl.run 1 rfl ?_
    obtain ⟨v5, e5, h9⟩ := bindS h8
    refine rl.op (x_app rfl rfl (rapp_sl (l := s1.2) (m := [v4]) (o := true) ekI rfl rfl (acont_slq (m := [v4]) (o := true) fkI rfl rfl) rfl (fkI.fst _ _) e5)) ?_
    refine rl.run 1 rfl (rl.done (RW.reg (rl.run 3 rfl (rl.done ?_))))
    cases h9
    exact hB1 _ rfl _ _ (Gh.ren0 [2] (.same rfl (ekI.fref _ _) .nil) rfl (.cons rfl (.dat (ekI.rlst)) (.cons rfl (.dat .int) (.cons rfl (.slq rfl rfl) (.cons rfl (.dat .int) .nil)))))
 ·intro y2 hC
  subst hC
  refine RW.sreg (rl.run 3 rfl ?_)
  obtain ⟨v7, e7, h10⟩ := bindS h2
  refine rl.op (x_app rfl rfl (rapp_sl (l := y6) (m := [x1]) (o := true) ekI rfl rfl (acont_slq (m := [x1]) (o := true) fkI rfl rfl) rfl (fkI.fst _ _) e7)) ?_
  refine rl.run 1 rfl (rl.done (RW.seq (RW.sreg (rl.run 1 rfl (rl.done ?_)))))
  obtain ⟨y13, ey13, h12⟩ := bindS h10
  refine RW.cutq (σ := (List Int)) (fun y9 => [(5, .sl 0 0 y9.length)]) (fun y9 => [some ⟨fl (encI true) y9, 1⟩]) (fun y => y13 = y) (fun _ _ _ _ g h => RW.gh g h) ?_ ?_
  ·refine RW.blk ?_
   refine RW.iter (σ := Int × (List Int)) ey13 (fun s8 => [(0, L_I x0), (1, .j x1), (5, .sl 0 0 s8.2.length), (7, .j s8.1)]) (fun s8 => [some ⟨fl (encI true) s8.2, 1⟩]) (Gh.ren0 [2] (.same rfl (ekI.fref _ _) .nil) rfl (.cons rfl (.dat (ekI.rlst)) (.cons rfl (.dat .int) (.cons rfl (.slq rfl rfl) (.cons rfl (.dat .int) .nil))))) (fun s8 B o hS11 hB11 hE11 => ?_)
   unfold S_spec_l07Sorted_2 at hS11
   refine RW.seq (RW.sreg (rl.run 3 rfl ?_))
   refine rl.gen rfl rfl fun b hb => ?_
   cases b
   ·have h13 := iteBF hS11 hb
    refine rl.done (RW.cond_f rfl (RW.exit (blkA_eq ?_)))
    cases h13
    exact ⟨_, (hE11 _ rfl).symm, (Gh.ren0 [0] (.same rfl (ekI.fref _ _) .nil) rfl (.cons rfl (.slq rfl rfl) .nil))⟩
   ·have h14 := iteBT hS11 hb
    refine rl.done (RW.cond_t rfl (RW.skip (RW.seq (RW.blk (RW.sreg (rl.run 2 rfl ?_))))))
    obtain ⟨v10, e10, h15⟩ := bindS h14
    refine rl.op (x_ia_lst (enc := encI) (o := false) rfl rfl rfl e10) ?_
    refine rl.op (x_ld_el (off' := 0) ekI rfl e10 rfl rfl rfl) ?_
    refine rl.run 1 rfl ?_
    refine rl.gen rfl rfl fun b hb => ?_
    cases b
    ·have h16 := iteBF h15 hb
     refine rl.done (RW.cond_f rfl (RW.skip (RW.reg (rl.run 3 rfl (rl.done ?_)))))
     cases h16
     exact hB11 _ rfl _ _ (Gh.ren0 [0] (.same rfl (ekI.fref _ _) .nil) rfl (.cons rfl (.dat (ekI.rlst)) (.cons rfl (.dat .int) (.cons rfl (.slq rfl rfl) (.cons rfl (.dat .int) .nil)))))
    ·have h17 := iteBT h15 hb
     refine rl.done (RW.cond_t rfl (RW.reg (rl.run 3 rfl ?_)))
     obtain ⟨v11, e11, h18⟩ := bindS h17
     refine rl.op (x_ia_lst (enc := encI) (o := false) rfl rfl rfl e11) ?_
     refine rl.op (x_ld_el (off' := 0) ekI rfl e11 rfl rfl rfl) ?_
     refine rl.run 1 rfl ?_
     obtain ⟨v12, e12, h19⟩ := bindS h18
     refine rl.op (x_app rfl rfl (rapp_sl (l := s8.2) (m := [v11]) (o := true) ekI rfl rfl (acont_slq (m := [v11]) (o := true) fkI rfl rfl) rfl (fkI.fst _ _) e12)) ?_
     refine rl.run 1 rfl (rl.done (RW.reg (rl.run 3 rfl (rl.done ?_))))
     cases h19
     exact hB11 _ rfl _ _ (Gh.ren0 [2] (.same rfl (ekI.fref _ _) .nil) rfl (.cons rfl (.dat (ekI.rlst)) (.cons rfl (.dat .int) (.cons rfl (.slq rfl rfl) (.cons rfl (.dat .int) .nil)))))
  ·intro y9 hC
   subst hC
   refine RW.sreg (rl.run 2 rfl (rl.done (RW.ret ?_)))
   cases h12
   exact RRet.mk rfl (OutR.ownq ekI rfl rfl) (by first | decide | simp)
set_option maxHeartbeats 2000000 in
theorem law_spec_l07Tell {x0 : List TItem} {x1 : Int} {r : TItem} (hF : F_spec_l07Tell x0 x1 = some r) : PCalls Tryz.prog 96 [L_TItem x0, .j x1] (.agg (enc_TItem true r)) := by
 refine PCalls.of_r k_spec_l07Tell rfl ?_
 unfold F_spec_l07Tell at hF
 refine RW.sreg (rl.run 1 rfl (rl.done (RW.sreg (rl.run 3 rfl (rl.done (RW.seq (RW.sreg (rl.run 1 rfl (rl.done ?_)))))))))
 obtain ⟨y6, ey6, h2⟩ := bindS hF
 refine RW.cutq (σ := Int × Int × Int × Int × Int × Int × (List UInt8) × (List UInt8) × (List UInt8)) (fun y2 => [(4, .ptr 0 0), (5, .ptr 1 0)]) (fun y2 => [some ⟨[.j 0, .j 0, .j 0, .j 0, .j 0, .j 0, .str [], .str [], .str []], 0⟩, some ⟨[.j y2.1, .j y2.2.1, .j y2.2.2.1, .j y2.2.2.2.1, .j y2.2.2.2.2.1, .j y2.2.2.2.2.2.1, .str y2.2.2.2.2.2.2.1, .str y2.2.2.2.2.2.2.2.1, .str y2.2.2.2.2.2.2.2.2], 0⟩]) (fun y => y6 = y) (fun _ _ _ _ g h => RW.gh g h) ?_ ?_
 ·refine RW.blk ?_
  refine RW.iter (σ := Int × Int × Int × Int × Int × Int × Int × (List UInt8) × (List UInt8) × (List UInt8)) ey6 (fun s1 => [(0, L_TItem x0), (1, .j x1), (4, .ptr 0 0), (5, .ptr 1 0), (6, .j s1.1)]) (fun s1 => [some ⟨[.j 0, .j 0, .j 0, .j 0, .j 0, .j 0, .str [], .str [], .str []], 0⟩, some ⟨[.j s1.2.1, .j s1.2.2.1, .j s1.2.2.2.1, .j s1.2.2.2.2.1, .j s1.2.2.2.2.2.1, .j s1.2.2.2.2.2.2.1, .str s1.2.2.2.2.2.2.2.1, .str s1.2.2.2.2.2.2.2.2.1, .str s1.2.2.2.2.2.2.2.2.2], 0⟩]) (Gh.ren0 [0, 1] (.cells rfl rfl (.keep .int (.keep .int (.keep .int (.keep .int (.keep .int (.keep .int (.keep .str (.keep .str (.keep .str .nil))))))))) (.cells rfl rfl (.keep .int (.keep .int (.keep .int (.keep .int (.keep .int (.keep .int (.keep .str (.keep .str (.keep .str .nil))))))))) .nil)) rfl (.cons rfl (.dat (ek_TItem.rlst)) (.cons rfl (.dat .int) (.cons rfl (.ptr rfl) (.cons rfl (.ptr rfl) (.cons rfl (.dat .int) .nil)))))) (fun s1 B o hS1 hB1 hE1 => ?_)
  unfold S_spec_l07Tell_1 at hS1
  refine RW.seq (RW.sreg (rl.run 3 rfl ?_))
  refine rl.gen rfl rfl fun b hb => ?_
  cases b
  ·have h3 := iteBF hS1 hb
   refine rl.done (RW.cond_f rfl (RW.exit (blkA_eq ?_)))
   cases h3
   exact ⟨_, (hE1 _ rfl).symm, (Gh.ren0 [0, 1] (.cells rfl rfl (.keep .int (.keep .int (.keep .int (.keep .int (.keep .int (.keep .int (.keep .str (.keep .str (.keep .str .nil))))))))) (.cells rfl rfl (.keep .int (.keep .int (.keep .int (.keep .int (.keep .int (.keep .int (.keep .str (.keep .str (.keep .str .nil))))))))) .nil)) rfl (.cons rfl (.ptr rfl) (.cons rfl (.ptr rfl) .nil)))⟩
  ·have h4 := iteBT hS1 hb
   refine rl.done (RW.cond_t rfl (RW.skip (RW.seq (RW.blk (RW.sreg (rl.run 2 rfl ?_))))))
   obtain ⟨v3, e3, h5⟩ := bindS h4
   refine rl.op (x_ia_lst (enc := enc_TItem) (o := false) rfl rfl rfl e3) ?_
   refine rl.op (x_ld_ela (off' := 0) (vs := (enc_TItem false v3)) ek_TItem rfl e3 rfl rfl rfl) ?_
   refine rl.run 2 rfl (rl.done (RW.seq (RW.seq ?_)))
   obtain ⟨y4, ey4, h6⟩ := bindS h5
   refine RW.cutq (σ := Bool) (fun y4 => [(0, L_TItem x0), (1, .j x1), (4, .ptr 0 0), (5, .ptr 1 0), (6, .j s1.1), (7, .ptr 2 0), (29, .bool y4)]) (fun y4 => [some ⟨[.j 0, .j 0, .j 0, .j 0, .j 0, .j 0, .str [], .str [], .str []], 0⟩, some ⟨[.j s1.2.1, .j s1.2.2.1, .j s1.2.2.2.1, .j s1.2.2.2.2.1, .j s1.2.2.2.2.2.1, .j s1.2.2.2.2.2.2.1, .str s1.2.2.2.2.2.2.2.1, .str s1.2.2.2.2.2.2.2.2.1, .str s1.2.2.2.2.2.2.2.2.2], 0⟩, some ⟨[.j v3.Seq, .j v3.Rec.Kind, .j v3.Rec.Valid, .j v3.Rec.Uid, .j v3.Rec.Next, .j v3.Rec.Flags, .str v3.Rec.User, .str v3.Rec.Name, .str v3.Rec.Text], 0⟩]) (fun y => y4 = y) (fun _ _ _ _ g h => RW.gh g h) ?_ ?_
   ·refine RW.reg ?_
    refine rl.run 3 rfl ?_
    refine rl.gen rfl rfl fun b hb => ?_
    cases b
    ·have h7 := iteBF ey4 hb
     refine rl.run 5 rfl ?_
     refine rl.gen rfl rfl fun b hb => ?_
     cases b
     ·have h8 := iteBF h7 hb
      refine rl.run 1 rfl (rl.done ?_)
      cases h8
      exact ⟨_, rfl, (Gh.ren0 [0, 1, 2] (.cells rfl rfl (.keep .int (.keep .int (.keep .int (.keep .int (.keep .int (.keep .int (.keep .str (.keep .str (.keep .str .nil))))))))) (.cells rfl rfl (.keep .int (.keep .int (.keep .int (.keep .int (.keep .int (.keep .int (.keep .str (.keep .str (.keep .str .nil))))))))) (.cells rfl rfl (.keep .int (.keep .int (.keep .int (.keep .int (.keep .int (.keep .int (.keep .str (.keep .str (.keep .str .nil))))))))) .nil))) rfl (.cons rfl (.dat (ek_TItem.rlst)) (.cons rfl (.dat .int) (.cons rfl (.ptr rfl) (.cons rfl (.ptr rfl) (.cons rfl (.dat .int) (.cons rfl (.ptr rfl) (.cons rfl (.dat .bool) .nil))))))))⟩
     ·have h9 := iteBT h7 hb
      refine rl.run 1 rfl (rl.done ?_)
      cases h9
      exact ⟨_, rfl, (Gh.ren0 [0, 1, 2] (.cells rfl rfl (.keep .int (.keep .int (.keep .int (.keep .int (.keep .int (.keep .int (.keep .str (.keep .str (.keep .str .nil))))))))) (.cells rfl rfl (.keep .int (.keep .int (.keep .int (.keep .int (.keep .int (.keep .int (.keep .str (.keep .str (.keep .str .nil))))))))) (.cells rfl rfl (.keep .int (.keep .int (.keep .int (.keep .int (.keep .int (.keep .int (.keep .str (.keep .str (.keep .str .nil))))))))) .nil))) rfl (.cons rfl (.dat (ek_TItem.rlst)) (.cons rfl (.dat .int) (.cons rfl (.ptr rfl) (.cons rfl (.ptr rfl) (.cons rfl (.dat .int) (.cons rfl (.ptr rfl) (.cons rfl (.dat .bool) .nil))))))))⟩
    ·have h10 := iteBT ey4 hb
     refine rl.run 7 rfl (rl.done ?_)
     cases h10
     exact ⟨_, rfl, (Gh.ren0 [0, 1, 2] (.cells rfl rfl (.keep .int (.keep .int (.keep .int (.keep .int (.keep .int (.keep .int (.keep .str (.keep .str (.keep .str .nil))))))))) (.cells rfl rfl (.keep .int (.keep .int (.keep .int (.keep .int (.keep .int (.keep .int (.keep .str (.keep .str (.keep .str .nil))))))))) (.cells rfl rfl (.keep .int (.keep .int (.keep .int (.keep .int (.keep .int (.keep .int (.keep .str (.keep .str (.keep .str .nil))))))))) .nil))) rfl (.cons rfl (.dat (ek_TItem.rlst)) (.cons rfl (.dat .int) (.cons rfl (.ptr rfl) (.cons rfl (.ptr rfl) (.cons rfl (.dat .int) (.cons rfl (.ptr rfl) (.cons rfl (.dat .bool) .nil))))))))⟩
   ·intro y hC
    subst hC
    cases hb : y4
    ·have h11 := iteBF h6 hb
     refine RW.cond_f rfl (RW.skip (RW.seq ?_))
     obtain ⟨y5, ey5, h12⟩ := bindS h11
     refine RW.cutq (σ := Bool) (fun y5 => [(0, L_TItem x0), (1, .j x1), (4, .ptr 0 0), (5, .ptr 1 0), (6, .j s1.1), (7, .ptr 2 0), (57, .bool y5)]) (fun y5 => [some ⟨[.j 0, .j 0, .j 0, .j 0, .j 0, .j 0, .str [], .str [], .str []], 0⟩, some ⟨[.j s1.2.1, .j s1.2.2.1, .j s1.2.2.2.1, .j s1.2.2.2.2.1, .j s1.2.2.2.2.2.1, .j s1.2.2.2.2.2.2.1, .str s1.2.2.2.2.2.2.2.1, .str s1.2.2.2.2.2.2.2.2.1, .str s1.2.2.2.2.2.2.2.2.2], 0⟩, some ⟨[.j v3.Seq, .j v3.Rec.Kind, .j v3.Rec.Valid, .j v3.Rec.Uid, .j v3.Rec.Next, .j v3.Rec.Flags, .str v3.Rec.User, .str v3.Rec.Name, .str v3.Rec.Text], 0⟩]) (fun y => y5 = y) (fun _ _ _ _ g h => RW.gh g h) ?_ ?_
     ·refine RW.reg ?_
      refine rl.run 2 rfl ?_
      refine rl.gen rfl rfl fun b hb => ?_
      cases b
      ·have h13 := iteBF ey5 hb
       refine rl.run 7 rfl ?_
       refine rl.gen rfl rfl fun b hb => ?_
       cases b
       ·have h14 := iteBF h13 hb
        refine rl.run 8 rfl ?_
        refine rl.gen rfl rfl fun b hb => ?_
        cases b
        ·have h15 := iteBF h14 hb
         refine rl.run 8 rfl (rl.done ?_)
         cases h15
         exact ⟨_, rfl, (Gh.ren0 [0, 1, 2] (.cells rfl rfl (.keep .int (.keep .int (.keep .int (.keep .int (.keep .int (.keep .int (.keep .str (.keep .str (.keep .str .nil))))))))) (.cells rfl rfl (.keep .int (.keep .int (.keep .int (.keep .int (.keep .int (.keep .int (.keep .str (.keep .str (.keep .str .nil))))))))) (.cells rfl rfl (.keep .int (.keep .int (.keep .int (.keep .int (.keep .int (.keep .int (.keep .str (.keep .str (.keep .str .nil))))))))) .nil))) rfl (.cons rfl (.dat (ek_TItem.rlst)) (.cons rfl (.dat .int) (.cons rfl (.ptr rfl) (.cons rfl (.ptr rfl) (.cons rfl (.dat .int) (.cons rfl (.ptr rfl) (.cons rfl (.dat .bool) .nil))))))))⟩
        ·have h16 := iteBT h14 hb
         refine rl.run 5 rfl ?_
         refine rl.gen rfl rfl fun b hb => ?_
         cases b
         ·have h17 := iteBF h16 hb
          refine rl.run 2 rfl (rl.done ?_)
          cases h17
          exact ⟨_, rfl, (Gh.ren0 [0, 1, 2] (.cells rfl rfl (.keep .int (.keep .int (.keep .int (.keep .int (.keep .int (.keep .int (.keep .str (.keep .str (.keep .str .nil))))))))) (.cells rfl rfl (.keep .int (.keep .int (.keep .int (.keep .int (.keep .int (.keep .int (.keep .str (.keep .str (.keep .str .nil))))))))) (.cells rfl rfl (.keep .int (.keep .int (.keep .int (.keep .int (.keep .int (.keep .int (.keep .str (.keep .str (.keep .str .nil))))))))) .nil))) rfl (.cons rfl (.dat (ek_TItem.rlst)) (.cons rfl (.dat .int) (.cons rfl (.ptr rfl) (.cons rfl (.ptr rfl) (.cons rfl (.dat .int) (.cons rfl (.ptr rfl) (.cons rfl (.dat .bool) .nil))))))))⟩
         ·have h18 := iteBT h16 hb
          refine rl.run 2 rfl (rl.done ?_)
          cases h18
          exact ⟨_, rfl, (Gh.ren0 [0, 1, 2] (.cells rfl rfl (.keep .int (.keep .int (.keep .int (.keep .int (.keep .int (.keep .int (.keep .str (.keep .str (.keep .str .nil))))))))) (.cells rfl rfl (.keep .int (.keep .int (.keep .int (.keep .int (.keep .int (.keep .int (.keep .str (.keep .str (.keep .str .nil))))))))) (.cells rfl rfl (.keep .int (.keep .int (.keep .int (.keep .int (.keep .int (.keep .int (.keep .str (.keep .str (.keep .str .nil))))))))) .nil))) rfl (.cons rfl (.dat (ek_TItem.rlst)) (.cons rfl (.dat .int) (.cons rfl (.ptr rfl) (.cons rfl (.ptr rfl) (.cons rfl (.dat .int) (.cons rfl (.ptr rfl) (.cons rfl (.dat .bool) .nil))))))))⟩
       ·have h19 := iteBT h13 hb
        refine rl.run 17 rfl (rl.done ?_)
        cases h19
        exact ⟨_, rfl, (Gh.ren0 [0, 1, 2] (.cells rfl rfl (.keep .int (.keep .int (.keep .int (.keep .int (.keep .int (.keep .int (.keep .str (.keep .str (.keep .str .nil))))))))) (.cells rfl rfl (.keep .int (.keep .int (.keep .int (.keep .int (.keep .int (.keep .int (.keep .str (.keep .str (.keep .str .nil))))))))) (.cells rfl rfl (.keep .int (.keep .int (.keep .int (.keep .int (.keep .int (.keep .int (.keep .str (.keep .str (.keep .str .nil))))))))) .nil))) rfl (.cons rfl (.dat (ek_TItem.rlst)) (.cons rfl (.dat .int) (.cons rfl (.ptr rfl) (.cons rfl (.ptr rfl) (.cons rfl (.dat .int) (.cons rfl (.ptr rfl) (.cons rfl (.dat .bool) .nil))))))))⟩
      ·have h20 := iteBT ey5 hb
       refine rl.run 25 rfl (rl.done ?_)
       cases h20
       exact ⟨_, rfl, (Gh.ren0 [0, 1, 2] (.cells rfl rfl (.keep .int (.keep .int (.keep .int (.keep .int (.keep .int (.keep .int (.keep .str (.keep .str (.keep .str .nil))))))))) (.cells rfl rfl (.keep .int (.keep .int (.keep .int (.keep .int (.keep .int (.keep .int (.keep .str (.keep .str (.keep .str .nil))))))))) (.cells rfl rfl (.keep .int (.keep .int (.keep .int (.keep .int (.keep .int (.keep .int (.keep .str (.keep .str (.keep .str .nil))))))))) .nil))) rfl (.cons rfl (.dat (ek_TItem.rlst)) (.cons rfl (.dat .int) (.cons rfl (.ptr rfl) (.cons rfl (.ptr rfl) (.cons rfl (.dat .int) (.cons rfl (.ptr rfl) (.cons rfl (.dat .bool) .nil))))))))⟩
     ·intro y hC
      subst hC
      cases hb : y5
      ·have h21 := iteBF h12 hb
       refine RW.cond_f rfl (RW.skip (RW.reg (rl.run 3 rfl (rl.done ?_))))
       cases h21
       exact hB1 _ rfl _ _ (Gh.ren0 [0, 1] (.cells rfl rfl (.keep .int (.keep .int (.keep .int (.keep .int (.keep .int (.keep .int (.keep .str (.keep .str (.keep .str .nil))))))))) (.cells rfl rfl (.keep .int (.keep .int (.keep .int (.keep .int (.keep .int (.keep .int (.keep .str (.keep .str (.keep .str .nil))))))))) .nil)) rfl (.cons rfl (.dat (ek_TItem.rlst)) (.cons rfl (.dat .int) (.cons rfl (.ptr rfl) (.cons rfl (.ptr rfl) (.cons rfl (.dat .int) .nil))))))
      ·have h22 := iteBT h12 hb
       refine RW.cond_t rfl (RW.reg (rl.run 2 rfl (rl.done (RW.reg (rl.run 3 rfl (rl.done ?_))))))
       cases h22
       exact hB1 _ rfl _ _ (Gh.ren0 [0, 1] (.cells rfl rfl (.keep .int (.keep .int (.keep .int (.keep .int (.keep .int (.keep .int (.keep .str (.keep .str (.keep .str .nil))))))))) (.cells rfl rfl (.keep .int (.keep .int (.keep .int (.keep .int (.keep .int (.keep .int (.keep .str (.keep .str (.keep .str .nil))))))))) .nil)) rfl (.cons rfl (.dat (ek_TItem.rlst)) (.cons rfl (.dat .int) (.cons rfl (.ptr rfl) (.cons rfl (.ptr rfl) (.cons rfl (.dat .int) .nil))))))
    ·have h23 := iteBT h6 hb
     refine RW.cond_t rfl (RW.exit (blkA_eq (RW.reg (rl.run 3 rfl (rl.done ?_)))))
     cases h23
     exact hB1 _ rfl _ _ (Gh.ren0 [0, 1] (.cells rfl rfl (.keep .int (.keep .int (.keep .int (.keep .int (.keep .int (.keep .int (.keep .str (.keep .str (.keep .str .nil))))))))) (.cells rfl rfl (.keep .int (.keep .int (.keep .int (.keep .int (.keep .int (.keep .int (.keep .str (.keep .str (.keep .str .nil))))))))) .nil)) rfl (.cons rfl (.dat (ek_TItem.rlst)) (.cons rfl (.dat .int) (.cons rfl (.ptr rfl) (.cons rfl (.ptr rfl) (.cons rfl (.dat .int) .nil))))))
 ·intro y2 hC
  subst hC
  refine RW.sreg (rl.run 2 rfl (rl.done (RW.ret ?_)))
  cases h2
  exact RRet.mk rfl (OutL.agg (.cons .int rfl (.cons .int rfl (.cons .int rfl (.cons .int rfl (.cons .int rfl (.cons .int rfl (.cons .str rfl (.cons .str rfl (.cons .str rfl .nil)))))))))) (by first | decide | simp)
set_option maxHeartbeats 2000000 in
theorem law_spec_l07Next {x0 : List TItem} {x1 : Int} {r : Int} (hF : F_spec_l07Next x0 x1 = some r) : PCalls Tryz.prog 97 [L_TItem x0, .j x1] (.j r) := by
 refine PCalls.of_r k_spec_l07Next rfl ?_
 unfold F_spec_l07Next at hF
 refine RW.sreg (rl.run 1 rfl (rl.done (RW.sreg (rl.run 1 rfl (rl.done (RW.seq (RW.sreg (rl.run 1 rfl (rl.done ?_)))))))))
 obtain ⟨y5, ey5, h2⟩ := bindS hF
 refine RW.cutq (σ := Int) (fun y2 => [(5, .j y2)]) (fun y2 => []) (fun y => y5 = y) (fun _ _ _ _ g h => RW.gh g h) ?_ ?_
 ·refine RW.blk ?_
  refine RW.iter (σ := Int × Int) ey5 (fun s1 => [(0, L_TItem x0), (1, .j x1), (5, .j s1.1), (6, .j s1.2)]) (fun s1 => []) (Gh.ren0 [] .nil rfl (.cons rfl (.dat (ek_TItem.rlst)) (.cons rfl (.dat .int) (.cons rfl (.dat .int) (.cons rfl (.dat .int) .nil))))) (fun s1 B o hS1 hB1 hE1 => ?_)
  unfold S_spec_l07Next_1 at hS1
  refine RW.seq (RW.sreg (rl.run 3 rfl ?_))
  refine rl.gen rfl rfl fun b hb => ?_
  cases b
  ·have h3 := iteBF hS1 hb
   refine rl.done (RW.cond_f rfl (RW.exit (blkA_eq ?_)))
   cases h3
   exact ⟨_, (hE1 _ rfl).symm, (Gh.ren0 [] .nil rfl (.cons rfl (.dat .int) .nil))⟩
  ·have h4 := iteBT hS1 hb
   refine rl.done (RW.cond_t rfl (RW.skip (RW.seq (RW.blk (RW.sreg (rl.run 2 rfl ?_))))))
   obtain ⟨v3, e3, h5⟩ := bindS h4
   refine rl.op (x_ia_lst (enc := enc_TItem) (o := false) rfl rfl rfl e3) ?_
   refine rl.run 1 rfl ?_
   refine rl.op (x_ld_ela (off' := 1) (vs := (enc_TRec false v3.Rec)) ek_TItem rfl e3 rfl rfl rfl) ?_
   refine rl.run 2 rfl (rl.done (RW.seq (RW.sreg (rl.run 3 rfl ?_))))
   refine rl.gen rfl rfl fun b hb => ?_
   cases b
   ·have h6 := iteBF h5 hb
    refine rl.done ?_
    refine RW.kp [0, 1, 5, 6, 7, 23] [(0, L_TItem x0), (1, .j x1), (5, .j s1.1), (6, .j s1.2), (7, .ptr 0 0), (23, .bool false)] [some ⟨[.j v3.Rec.Kind, .j v3.Rec.Valid, .j v3.Rec.Uid, .j v3.Rec.Next, .j v3.Rec.Flags, .str v3.Rec.User, .str v3.Rec.Name, .str v3.Rec.Text], 0⟩] rfl rfl ?_
    refine RW.cond_f rfl (RW.skip (RW.sreg (rl.run 1 rfl (rl.done (RW.seq (RW.sreg (rl.run 2 rfl (rl.done ?_))))))))
    obtain ⟨y4, ey4, h7⟩ := bindS h6
    refine RW.cutq (σ := Int) (fun y4 => [(0, L_TItem x0), (1, .j x1), (5, .j s1.1), (6, .j s1.2), (8, .j y4)]) (fun y4 => []) (fun y => y4 = y) (fun _ _ _ _ g h => RW.gh g h) ?_ ?_
    ·refine RW.blk ?_
     refine RW.sreg ?_
     refine rl.gen rfl rfl fun b hb => ?_
     cases b
     ·have h8 := iteBF ey4 hb
      refine rl.run 1 rfl (rl.done (RW.cond_f rfl (RW.seq (RW.sreg ?_))))
      refine rl.gen rfl rfl fun b hb => ?_
      cases b
      ·have h9 := iteBF h8 hb
       refine rl.run 1 rfl (rl.done (RW.cond_f rfl (RW.reg ?_)))
       refine rl.gen rfl rfl fun b hb => ?_
       cases b
       ·have h10 := iteBF h9 hb
        refine rl.run 1 rfl (rl.done (RW.cond_f rfl (RW.skip ?_)))
        cases h10
        exact ⟨_, rfl, (Gh.ren0 [] .nil rfl (.cons rfl (.dat (ek_TItem.rlst)) (.cons rfl (.dat .int) (.cons rfl (.dat .int) (.cons rfl (.dat .int) (.cons rfl (.dat .int) .nil))))))⟩
       ·have h11 := iteBT h9 hb
        refine rl.run 1 rfl (rl.done (RW.cond_t rfl (RW.reg (rl.run 4 rfl (rl.done ?_)))))
        cases h11
        exact ⟨_, rfl, (Gh.ren0 [] .nil rfl (.cons rfl (.dat (ek_TItem.rlst)) (.cons rfl (.dat .int) (.cons rfl (.dat .int) (.cons rfl (.dat .int) (.cons rfl (.dat .int) .nil))))))⟩
      ·have h12 := iteBT h8 hb
       refine rl.run 1 rfl (rl.done (RW.cond_t rfl (RW.skip (RW.cond_t rfl (RW.reg (rl.run 4 rfl (rl.done ?_)))))))
       cases h12
       exact ⟨_, rfl, (Gh.ren0 [] .nil rfl (.cons rfl (.dat (ek_TItem.rlst)) (.cons rfl (.dat .int) (.cons rfl (.dat .int) (.cons rfl (.dat .int) (.cons rfl (.dat .int) .nil))))))⟩
     ·have h13 := iteBT ey4 hb
      refine rl.run 1 rfl (rl.done (RW.cond_t rfl (RW.reg (rl.run 3 rfl (rl.done ?_)))))
      cases h13
      exact ⟨_, rfl, (Gh.ren0 [] .nil rfl (.cons rfl (.dat (ek_TItem.rlst)) (.cons rfl (.dat .int) (.cons rfl (.dat .int) (.cons rfl (.dat .int) (.cons rfl (.dat .int) .nil))))))⟩
    ·intro y hC
     subst hC
     refine RW.sreg (rl.run 2 rfl ?_)
     refine rl.gen rfl rfl fun b hb => ?_
     cases b
     ·have h14 := iteBF h7 hb
      refine rl.done (RW.cond_f rfl (RW.skip (RW.reg (rl.run 3 rfl (rl.done ?_)))))
      cases h14
      exact hB1 _ rfl _ _ (Gh.ren0 [] .nil rfl (.cons rfl (.dat (ek_TItem.rlst)) (.cons rfl (.dat .int) (.cons rfl (.dat .int) (.cons rfl (.dat .int) .nil)))))
     ·have h15 := iteBT h7 hb
      refine rl.done (RW.cond_t rfl (RW.reg (rl.run 2 rfl (rl.done (RW.reg (rl.run 3 rfl (rl.done ?_)))))))
      cases h15
      exact hB1 _ rfl _ _ (Gh.ren0 [] .nil rfl (.cons rfl (.dat (ek_TItem.rlst)) (.cons rfl (.dat .int) (.cons rfl (.dat .int) (.cons rfl (.dat .int) .nil)))))
   ·have h16 := iteBT h5 hb
    refine rl.done ?_
    refine RW.kp [0, 1, 5, 6, 7, 23] [(0, L_TItem x0), (1, .j x1), (5, .j s1.1), (6, .j s1.2), (7, .ptr 0 0), (23, .bool true)] [some ⟨[.j v3.Rec.Kind, .j v3.Rec.Valid, .j v3.Rec.Uid, .j v3.Rec.Next, .j v3.Rec.Flags, .str v3.Rec.User, .str v3.Rec.Name, .str v3.Rec.Text], 0⟩] rfl rfl ?_
    refine RW.cond_t rfl (RW.exit (blkA_eq (RW.reg (rl.run 3 rfl (rl.done ?_)))))
    cases h16
    exact hB1 _ rfl _ _ (Gh.ren0 [] .nil rfl (.cons rfl (.dat (ek_TItem.rlst)) (.cons rfl (.dat .int) (.cons rfl (.dat .int) (.cons rfl (.dat .int) .nil)))))
 ·intro y2 hC
  subst hC
  refine RW.sreg (rl.run 2 rfl (rl.done (RW.ret ?_)))
  cases h2
  exact RRet.mk rfl .int (by first | decide | simp)
set_option maxHeartbeats 2000000 in
theorem law_spec_l07Mails {x0 : List TItem} {x1 : Int} {r : List TMail} (hF : F_spec_l07Mails x0 x1 = some r) : PCalls Tryz.prog 98 [L_TItem x0, .j x1] (.lst true 3 (fl (enc_TMail true) r) r.length) := by
 refine PCalls.of_r k_spec_l07Mails rfl ?_
 unfold F_spec_l07Mails at hF
 refine RW.sreg (rl.run 1 rfl (rl.done (RW.sreg (rl.run 2 rfl (rl.done (RW.seq (RW.sreg (rl.run 1 rfl (rl.done ?_)))))))))
 refine RW.gh (Gh.nil_t 5 1 rfl) ?_
 obtain ⟨y7, ey7, h2⟩ := bindS hF
 refine RW.cutq (σ := (List Int)) (fun y2 => [(0, L_TItem x0), (1, .j x1), (5, .sl 0 0 y2.length)]) (fun y2 => [some ⟨fl (encI true) y2, 1⟩]) (fun y => y7 = y) (fun _ _ _ _ g h => RW.gh g h) ?_ ?_
 ·refine RW.blk ?_
  refine RW.iter (σ := Int × (List Int)) ey7 (fun s1 => [(0, L_TItem x0), (1, .j x1), (5, .sl 0 0 s1.2.length), (6, .j s1.1)]) (fun s1 => [some ⟨fl (encI true) s1.2, 1⟩]) (Gh.ren0 [0] (.same rfl (ekI.fref _ _) .nil) rfl (.cons rfl (.dat (ek_TItem.rlst)) (.cons rfl (.dat .int) (.cons rfl (.slq rfl rfl) (.cons rfl (.dat .int) .nil))))) (fun s1 B o hS1 hB1 hE1 => ?_)
  unfold S_spec_l07Mails_1 at hS1
  refine RW.seq (RW.sreg (rl.run 3 rfl ?_))
  refine rl.gen rfl rfl fun b hb => ?_
  cases b
  ·have h3 := iteBF hS1 hb
   refine rl.done (RW.cond_f rfl (RW.exit (blkA_eq ?_)))
   cases h3
   exact ⟨_, (hE1 _ rfl).symm, (Gh.ren0 [0] (.same rfl (ekI.fref _ _) .nil) rfl (.cons rfl (.dat (ek_TItem.rlst)) (.cons rfl (.dat .int) (.cons rfl (.slq rfl rfl) .nil))))⟩
  ·have h4 := iteBT hS1 hb
   refine rl.done (RW.cond_t rfl (RW.skip (RW.seq (RW.blk (RW.sreg (rl.run 2 rfl ?_))))))
   obtain ⟨v3, e3, h5⟩ := bindS h4
   refine rl.op (x_ia_lst (enc := enc_TItem) (o := false) rfl rfl rfl e3) ?_
   refine rl.run 1 rfl ?_
   refine rl.op (x_ld_ela (off' := 1) (vs := (enc_TRec false v3.Rec)) ek_TItem rfl e3 rfl rfl rfl) ?_
   refine rl.run 2 rfl (rl.done (RW.sreg (rl.run 4 rfl ?_)))
   obtain ⟨v4, e4, h6⟩ := bindS h5
   refine rl.call rfl rfl rfl (CallW.val (r' := .tup [.agg (enc_TItem false v4.1), .bool v4.2]) ok_spec_l07Best (law_spec_l07Best e4) (.cons (.lst ek_TItem) (.cons .int (.cons .int (.cons .int .nil)))) (FlL.tup (.cons .refl (.cons .refl .nil))) ?_)
   refine rl.run 6 rfl (rl.done ?_)
   refine RW.kp [0, 1, 5, 6, 7, 9] [(0, L_TItem x0), (1, .j x1), (5, .sl 0 0 s1.2.length), (6, .j s1.1), (7, .ptr 1 0), (9, .bool v4.2)] [some ⟨fl (encI true) s1.2, 1⟩, some ⟨[.j v3.Rec.Kind, .j v3.Rec.Valid, .j v3.Rec.Uid, .j v3.Rec.Next, .j v3.Rec.Flags, .str v3.Rec.User, .str v3.Rec.Name, .str v3.Rec.Text], 0⟩, some ⟨[.j v4.1.Seq, .j v4.1.Rec.Kind, .j v4.1.Rec.Valid, .j v4.1.Rec.Uid, .j v4.1.Rec.Next, .j v4.1.Rec.Flags, .str v4.1.Rec.User, .str v4.1.Rec.Name, .str v4.1.Rec.Text], 0⟩] rfl rfl ?_
   refine RW.seq ?_
   obtain ⟨y5, ey5, h7⟩ := bindS h6
   refine RW.cutq (σ := Bool) (fun y5 => [(0, L_TItem x0), (1, .j x1), (5, .sl 0 0 s1.2.length), (6, .j s1.1), (7, .ptr 1 0), (49, .bool y5)]) (fun y5 => [some ⟨fl (encI true) s1.2, 1⟩, some ⟨[.j v3.Rec.Kind, .j v3.Rec.Valid, .j v3.Rec.Uid, .j v3.Rec.Next, .j v3.Rec.Flags, .str v3.Rec.User, .str v3.Rec.Name, .str v3.Rec.Text], 0⟩]) (fun y => y5 = y) (fun _ _ _ _ g h => RW.gh g h) ?_ ?_
   ·refine RW.reg ?_
    refine rl.run 2 rfl ?_
    refine rl.gen rfl rfl fun b hb => ?_
    cases b
    ·have h8 := iteBF ey5 hb
     refine rl.run 10 rfl (rl.done ?_)
     cases h8
     exact ⟨_, rfl, (Gh.ren0 [0, 1] (.same rfl (ekI.fref _ _) (.cells rfl rfl (.keep .int (.keep .int (.keep .int (.keep .int (.keep .int (.keep .str (.keep .str (.keep .str .nil)))))))) .nil)) rfl (.cons rfl (.dat (ek_TItem.rlst)) (.cons rfl (.dat .int) (.cons rfl (.slq rfl rfl) (.cons rfl (.dat .int) (.cons rfl (.ptr rfl) (.cons rfl (.dat .bool) .nil)))))))⟩
    ·have h9 := iteBT ey5 hb
     refine rl.run 4 rfl ?_
     refine rl.gen rfl rfl fun b hb => ?_
     cases b
     ·have h10 := iteBF h9 hb
      refine rl.run 5 rfl (rl.done ?_)
      cases h10
      exact ⟨_, rfl, (Gh.ren0 [0, 1] (.same rfl (ekI.fref _ _) (.cells rfl rfl (.keep .int (.keep .int (.keep .int (.keep .int (.keep .int (.keep .str (.keep .str (.keep .str .nil)))))))) .nil)) rfl (.cons rfl (.dat (ek_TItem.rlst)) (.cons rfl (.dat .int) (.cons rfl (.slq rfl rfl) (.cons rfl (.dat .int) (.cons rfl (.ptr rfl) (.cons rfl (.dat .bool) .nil)))))))⟩
     ·have h11 := iteBT h9 hb
      refine rl.run 5 rfl (rl.done ?_)
      cases h11
      exact ⟨_, rfl, (Gh.ren0 [0, 1] (.same rfl (ekI.fref _ _) (.cells rfl rfl (.keep .int (.keep .int (.keep .int (.keep .int (.keep .int (.keep .str (.keep .str (.keep .str .nil)))))))) .nil)) rfl (.cons rfl (.dat (ek_TItem.rlst)) (.cons rfl (.dat .int) (.cons rfl (.slq rfl rfl) (.cons rfl (.dat .int) (.cons rfl (.ptr rfl) (.cons rfl (.dat .bool) .nil)))))))⟩
   ·intro y hC
    subst hC
    cases hb : y5
    ·have h12 := iteBF h7 hb
     refine RW.cond_f rfl (RW.skip (RW.reg (rl.run 3 rfl (rl.done ?_))))
     cases h12
     exact hB1 _ rfl _ _ (Gh.ren0 [0] (.same rfl (ekI.fref _ _) .nil) rfl (.cons rfl (.dat (ek_TItem.rlst)) (.cons rfl (.dat .int) (.cons rfl (.slq rfl rfl) (.cons rfl (.dat .int) .nil)))))
    ·have h13 := iteBT h7 hb
     refine RW.cond_t rfl (RW.reg (rl.run 3 rfl ?_))
     obtain ⟨v6, e6, h14⟩ := bindS h13
     refine rl.call rfl rfl rfl (CallW.own (r' := .sl 2 0 v6.length) (H' := [some ⟨fl (encI true) s1.2, 1⟩, some ⟨[.j v3.Rec.Kind, .j v3.Rec.Valid, .j v3.Rec.Uid, .j v3.Rec.Next, .j v3.Rec.Flags, .str v3.Rec.User, .str v3.Rec.Name, .str v3.Rec.Text], 0⟩, some ⟨fl (encI true) v6, 1⟩]) ok_spec_l07Sorted (law_spec_l07Sorted e6) (.cons (.slq ekI rfl rfl) (.cons .int .nil)) (.lst (ekI.fown _)) rfl ?_)
     refine rl.run 1 rfl (rl.done (RW.reg (rl.run 3 rfl (rl.done ?_))))
     cases h14
     exact hB1 _ rfl _ _ (Gh.ren0 [2] (.same rfl (ekI.fref _ _) .nil) rfl (.cons rfl (.dat (ek_TItem.rlst)) (.cons rfl (.dat .int) (.cons rfl (.slq rfl rfl) (.cons rfl (.dat .int) .nil)))))
 ·intro y2 hC
  subst hC
  refine RW.sreg (rl.run 2 rfl (rl.done (RW.seq (RW.sreg (rl.run 1 rfl (rl.done ?_))))))
  refine RW.gh (Gh.nil_t 10 3 rfl) ?_
  obtain ⟨y17, ey17, h16⟩ := bindS h2
  refine RW.cutq (σ := (List TMail)) (fun y9 => [(10, .sl 0 0 y9.length)]) (fun y9 => [some ⟨fl (enc_TMail true) y9, 3⟩]) (fun y => y17 = y) (fun _ _ _ _ g h => RW.gh g h) ?_ ?_
  ·refine RW.blk ?_
   refine RW.iter (σ := Int × (List TMail)) ey17 (fun s8 => [(0, L_TItem x0), (1, .j x1), (5, .sl 0 0 y7.length), (10, .sl 1 0 s8.2.length), (11, .j s8.1)]) (fun s8 => [some ⟨fl (encI true) y7, 1⟩, some ⟨fl (enc_TMail true) s8.2, 3⟩]) (Gh.ren0 [0, 1] (.same rfl (ekI.fref _ _) (.same rfl (ek_TMail.fref _ _) .nil)) rfl (.cons rfl (.dat (ek_TItem.rlst)) (.cons rfl (.dat .int) (.cons rfl (.slq rfl rfl) (.cons rfl (.slq rfl rfl) (.cons rfl (.dat .int) .nil)))))) (fun s8 B o hS15 hB15 hE15 => ?_)
   unfold S_spec_l07Mails_2 at hS15
   refine RW.seq (RW.sreg (rl.run 3 rfl ?_))
   refine rl.gen rfl rfl fun b hb => ?_
   cases b
   ·have h17 := iteBF hS15 hb
    refine rl.done (RW.cond_f rfl (RW.exit (blkA_eq ?_)))
    cases h17
    exact ⟨_, (hE15 _ rfl).symm, (Gh.ren0 [1] (.same rfl (ek_TMail.fref _ _) .nil) rfl (.cons rfl (.slq rfl rfl) .nil))⟩
   ·have h18 := iteBT hS15 hb
    refine rl.done (RW.cond_t rfl (RW.skip (RW.seq (RW.blk (RW.sreg (rl.run 4 rfl ?_))))))
    obtain ⟨v10, e10, h19⟩ := bindS h18
    refine rl.op (x_ia_sl rfl rfl rfl rfl e10) ?_
    refine rl.op (x_ld_sl (off' := 0) ekI rfl rfl e10 rfl rfl rfl) ?_
    obtain ⟨v11, e11, h20⟩ := bindS h19
    refine rl.call rfl rfl rfl (CallW.val (r' := .tup [.agg (enc_TItem false v11.1), .bool v11.2]) ok_spec_l07Best (law_spec_l07Best e11) (.cons (.lst ek_TItem) (.cons .int (.cons .int (.cons .int .nil)))) (FlL.tup (.cons .refl (.cons .refl .nil))) ?_)
    refine rl.run 6 rfl (rl.done ?_)
    refine RW.kp [0, 1, 5, 10, 11, 12] [(0, L_TItem x0), (1, .j x1), (5, .sl 0 0 y7.length), (10, .sl 1 0 s8.2.length), (11, .j s8.1), (12, .ptr 2 0)] [some ⟨fl (encI true) y7, 1⟩, some ⟨fl (enc_TMail true) s8.2, 3⟩, some ⟨[.j v11.1.Seq, .j v11.1.Rec.Kind, .j v11.1.Rec.Valid, .j v11.1.Rec.Uid, .j v11.1.Rec.Next, .j v11.1.Rec.Flags, .str v11.1.Rec.User, .str v11.1.Rec.Name, .str v11.1.Rec.Text], 0⟩] rfl rfl ?_
    refine RW.sdrw (rdraw.op rfl rfl (rdraw.op rfl rfl ?_))
    obtain ⟨v12, e12, h21⟩ := bindS h20
    refine rdraw.op rfl (x_ia_sl rfl rfl rfl rfl e12) ?_
    refine rdraw.op rfl (x_ld_sl (off' := 0) ekI rfl rfl e12 rfl rfl rfl) ?_
    refine rdraw.op rfl rfl (rdraw.op rfl rfl (rdraw.op rfl rfl (rdraw.op rfl rfl (rdraw.op rfl rfl (rdraw.op rfl rfl (rdraw.op rfl rfl ?_))))))
    refine rdraw.chnB rfl rfl (.here (.rx rfl) (.here (.rx rfl) (.here (.rx rfl) (.here (.rx rfl) (.here (.rx rfl) (.here (.rx rfl) (.here (.rx rfl) (.here (.rx (x_ld_sl (off' := 0) ekI rfl rfl e12 rfl rfl rfl)) (.here (.rx (x_ia_sl rfl rfl rfl rfl e12)) (.here (.rx rfl) (.here (.rx rfl) .nil))))))))))) ?_
    refine rdraw.chn rfl rfl ?_
    refine rdraw.done ?_
    refine RW.kp [0, 1, 5, 10, 11, 14] [(0, L_TItem x0), (1, .j x1), (5, .sl 0 0 y7.length), (10, .sl 1 0 s8.2.length), (11, .j s8.1), (14, .ptr 3 0)] [some ⟨fl (encI true) y7, 1⟩, some ⟨fl (enc_TMail true) s8.2, 3⟩, some ⟨[.j v11.1.Seq, .j v11.1.Rec.Kind, .j v11.1.Rec.Valid, .j v11.1.Rec.Uid, .j v11.1.Rec.Next, .j v11.1.Rec.Flags, .str v11.1.Rec.User, .str v11.1.Rec.Name, .str v11.1.Rec.Text], 0⟩, some ⟨[.j v12, .j v11.1.Rec.Flags, .str v11.1.Rec.Text], 0⟩] rfl rfl ?_
    refine RW.sreg (rl.run 4 rfl ?_)
    obtain ⟨v13, e13, h22⟩ := bindS h21
    refine rl.op (x_ia_sl rfl rfl rfl rfl e13) ?_
    refine rl.op (x_ld_sl (off' := 0) ekI rfl rfl e13 rfl rfl rfl) ?_
    obtain ⟨v14, e14, h23⟩ := bindS h22
    refine rl.call rfl rfl rfl (CallW.val (r' := .tup [.agg (enc_TItem false v14.1), .bool v14.2]) ok_spec_l07Best (law_spec_l07Best e14) (.cons (.lst ek_TItem) (.cons .int (.cons .int (.cons .int .nil)))) (FlL.tup (.cons .refl (.cons .refl .nil))) ?_)
    refine rl.run 6 rfl (rl.done (RW.seq (RW.sreg (rl.run 1 rfl (rl.done ?_)))))
    refine RW.kp [0, 1, 5, 10, 11, 14, 15, 92] [(0, L_TItem x0), (1, .j x1), (5, .sl 0 0 y7.length), (10, .sl 1 0 s8.2.length), (11, .j s8.1), (14, .ptr 3 0), (15, .ptr 4 0), (92, .bool v14.2)] [some ⟨fl (encI true) y7, 1⟩, some ⟨fl (enc_TMail true) s8.2, 3⟩, some ⟨[.j v11.1.Seq, .j v11.1.Rec.Kind, .j v11.1.Rec.Valid, .j v11.1.Rec.Uid, .j v11.1.Rec.Next, .j v11.1.Rec.Flags, .str v11.1.Rec.User, .str v11.1.Rec.Name, .str v11.1.Rec.Text], 0⟩, some ⟨[.j v12, .j v11.1.Rec.Flags, .str v11.1.Rec.Text], 0⟩, some ⟨[.j v14.1.Seq, .j v14.1.Rec.Kind, .j v14.1.Rec.Valid, .j v14.1.Rec.Uid, .j v14.1.Rec.Next, .j v14.1.Rec.Flags, .str v14.1.Rec.User, .str v14.1.Rec.Name, .str v14.1.Rec.Text], 0⟩] rfl rfl ?_
    obtain ⟨y15, ey15, h24⟩ := bindS h23
    refine RW.cutq (σ := Int) (fun y15 => [(0, L_TItem x0), (1, .j x1), (5, .sl 0 0 y7.length), (10, .sl 1 0 s8.2.length), (11, .j s8.1), (14, .ptr 2 0)]) (fun y15 => [some ⟨fl (encI true) y7, 1⟩, some ⟨fl (enc_TMail true) s8.2, 3⟩, some ⟨[.j v12, .j y15, .str v11.1.Rec.Text], 0⟩]) (fun y => y15 = y) (fun _ _ _ _ g h => RW.gh g h) ?_ ?_
    ·cases hb : v14.2
     ·have h25 := iteBF ey15 hb
      refine RW.cond_f rfl (RW.skip ?_)
      cases h25
      exact ⟨_, rfl, (Gh.ren0 [0, 1, 3] (.same rfl (ekI.fref _ _) (.same rfl (ek_TMail.fref _ _) (.cells rfl rfl (.keep .int (.keep .int (.keep .str .nil))) .nil))) rfl (.cons rfl (.dat (ek_TItem.rlst)) (.cons rfl (.dat .int) (.cons rfl (.slq rfl rfl) (.cons rfl (.slq rfl rfl) (.cons rfl (.dat .int) (.cons rfl (.ptr rfl) .nil)))))))⟩
     ·have h26 := iteBT ey15 hb
      refine RW.cond_t rfl (RW.reg (rl.run 5 rfl (rl.done ?_)))
      cases h26
      exact ⟨_, rfl, (Gh.ren0 [0, 1, 3] (.same rfl (ekI.fref _ _) (.same rfl (ek_TMail.fref _ _) (.cells rfl rfl (.keep .int (.keep .int (.keep .str .nil))) .nil))) rfl (.cons rfl (.dat (ek_TItem.rlst)) (.cons rfl (.dat .int) (.cons rfl (.slq rfl rfl) (.cons rfl (.slq rfl rfl) (.cons rfl (.dat .int) (.cons rfl (.ptr rfl) .nil)))))))⟩
    ·intro y hC
     subst hC
     refine RW.reg (rl.run 3 rfl ?_)
     obtain ⟨v16, e16, h27⟩ := bindS h24
     refine rl.op (x_app rfl rfl (rapp_sl (l := s8.2) (m := [({ Uid := v12, Flags := y15, Text := v11.1.Rec.Text } : TMail)]) (o := true) ek_TMail rfl rfl (acont_slq (m := [({ Uid := v12, Flags := y15, Text := v11.1.Rec.Text } : TMail)]) (o := true) fk_TMail rfl rfl) rfl (fk_TMail.fst _ _) e16)) ?_
     refine rl.run 1 rfl (rl.done (RW.reg (rl.run 3 rfl (rl.done ?_))))
     cases h27
     exact hB15 _ rfl _ _ (Gh.ren0 [0, 4] (.same rfl (ekI.fref _ _) (.same rfl (ek_TMail.fref _ _) .nil)) rfl (.cons rfl (.dat (ek_TItem.rlst)) (.cons rfl (.dat .int) (.cons rfl (.slq rfl rfl) (.cons rfl (.slq rfl rfl) (.cons rfl (.dat .int) .nil))))))
  ·intro y9 hC
   subst hC
   refine RW.sreg (rl.run 2 rfl (rl.done (RW.ret ?_)))
   cases h16
   exact RRet.mk rfl (OutR.ownq ek_TMail rfl rfl) (by first | decide | simp)
set_option maxHeartbeats 2000000 in
theorem law_spec_StateOf {x0 : List TItem} {r : TState} (hF : F_spec_StateOf x0 = some r) : PCalls Tryz.prog 49 [L_TItem x0] (.agg (enc_TState true r)) := by
 refine PCalls.of_r k_spec_StateOf rfl ?_
 unfold F_spec_StateOf at hF
 refine RW.sreg (rl.run 1 rfl (rl.done (RW.sreg (rl.run 3 rfl (rl.done (RW.seq (RW.sreg (rl.run 1 rfl ?_))))))))
 obtain ⟨v1, e1, h1⟩ := bindS hF
 refine rl.call rfl rfl rfl (CallW.val (r' := .bool v1) ok_spec_ItemsOk (law_spec_ItemsOk e1) (.cons (.lst ek_TItem) .nil) .refl ?_)
 cases hb : v1
 ·have h2 := iteBF h1 hb
  refine rl.run 1 rfl (rl.done (RW.cond_t rfl (RW.sreg (rl.run 2 rfl (rl.done (RW.ret ?_))))))
  cases h2
  exact RRet.mk rfl (OutL.agg (.cons (OutR.nil (enc := enc_TBox)) rfl .nil)) (by first | decide | simp)
 ·have h3 := iteBT h1 hb
  refine rl.run 1 rfl (rl.done (RW.cond_f rfl (RW.skip (RW.sreg (rl.run 2 rfl (rl.done (RW.seq (RW.sreg (rl.run 1 rfl (rl.done ?_))))))))))
  refine RW.gh (Gh.nil_t 4 1 rfl) ?_
  obtain ⟨y7, ey7, h5⟩ := bindS h3
  refine RW.cutq (σ := (List Int)) (fun y3 => [(0, L_TItem x0), (2, .ptr 0 0), (3, .ptr 1 0), (4, .sl 2 0 y3.length)]) (fun y3 => [some ⟨[.nils], 0⟩, some ⟨[.nils], 0⟩, some ⟨fl (encI true) y3, 1⟩]) (fun y => y7 = y) (fun _ _ _ _ g h => RW.gh g h) ?_ ?_
  ·refine RW.blk ?_
   refine RW.iter (σ := Int × (List Int)) ey7 (fun s2 => [(0, L_TItem x0), (2, .ptr 0 0), (3, .ptr 1 0), (4, .sl 2 0 s2.2.length), (5, .j s2.1)]) (fun s2 => [some ⟨[.nils], 0⟩, some ⟨[.nils], 0⟩, some ⟨fl (encI true) s2.2, 1⟩]) (Gh.ren0 [0, 1, 2] (.cells rfl rfl (.keep .nils .nil) (.cells rfl rfl (.keep .nils .nil) (.same rfl (ekI.fref _ _) .nil))) rfl (.cons rfl (.dat (ek_TItem.rlst)) (.cons rfl (.ptr rfl) (.cons rfl (.ptr rfl) (.cons rfl (.slq rfl rfl) (.cons rfl (.dat .int) .nil)))))) (fun s2 B o hS4 hB4 hE4 => ?_)
   unfold S_spec_StateOf_1 at hS4
   refine RW.seq (RW.sreg (rl.run 3 rfl ?_))
   refine rl.gen rfl rfl fun b hb => ?_
   cases b
   ·have h6 := iteBF hS4 hb
    refine rl.done (RW.cond_f rfl (RW.exit (blkA_eq ?_)))
    cases h6
    exact ⟨_, (hE4 _ rfl).symm, (Gh.ren0 [0, 1, 2] (.cells rfl rfl (.keep .nils .nil) (.cells rfl rfl (.keep .nils .nil) (.same rfl (ekI.fref _ _) .nil))) rfl (.cons rfl (.dat (ek_TItem.rlst)) (.cons rfl (.ptr rfl) (.cons rfl (.ptr rfl) (.cons rfl (.slq rfl rfl) .nil)))))⟩
   ·have h7 := iteBT hS4 hb
    refine rl.done (RW.cond_t rfl (RW.skip (RW.seq (RW.blk (RW.sreg (rl.run 2 rfl ?_))))))
    obtain ⟨v4, e4, h8⟩ := bindS h7
    refine rl.op (x_ia_lst (enc := enc_TItem) (o := false) rfl rfl rfl e4) ?_
    refine rl.run 1 rfl ?_
    refine rl.op (x_ld_ela (off' := 1) (vs := (enc_TRec false v4.Rec)) ek_TItem rfl e4 rfl rfl rfl) ?_
    refine rl.run 2 rfl (rl.done (RW.sreg (rl.run 3 rfl ?_)))
    obtain ⟨v5, e5, h9⟩ := bindS h8
    refine rl.call rfl rfl rfl (CallW.val (r' := .tup [.agg (enc_TItem false v5.1), .bool v5.2]) ok_spec_l07Best (law_spec_l07Best e5) (.cons (.lst ek_TItem) (.cons .int (.cons .int (.cons .int .nil)))) (FlL.tup (.cons .refl (.cons .refl .nil))) ?_)
    refine rl.run 6 rfl (rl.done ?_)
    refine RW.kp [0, 2, 3, 4, 5, 6, 8] [(0, L_TItem x0), (2, .ptr 0 0), (3, .ptr 1 0), (4, .sl 2 0 s2.2.length), (5, .j s2.1), (6, .ptr 3 0), (8, .bool v5.2)] [some ⟨[.nils], 0⟩, some ⟨[.nils], 0⟩, some ⟨fl (encI true) s2.2, 1⟩, some ⟨[.j v4.Rec.Kind, .j v4.Rec.Valid, .j v4.Rec.Uid, .j v4.Rec.Next, .j v4.Rec.Flags, .str v4.Rec.User, .str v4.Rec.Name, .str v4.Rec.Text], 0⟩, some ⟨[.j v5.1.Seq, .j v5.1.Rec.Kind, .j v5.1.Rec.Valid, .j v5.1.Rec.Uid, .j v5.1.Rec.Next, .j v5.1.Rec.Flags, .str v5.1.Rec.User, .str v5.1.Rec.Name, .str v5.1.Rec.Text], 0⟩] rfl rfl ?_
    refine RW.sreg (rl.run 2 rfl ?_)
    refine rl.gen rfl rfl fun b hb => ?_
    cases b
    ·have h10 := iteBF h9 hb
     refine rl.run 4 rfl (rl.done (RW.cond_f rfl (RW.skip (RW.reg (rl.run 3 rfl (rl.done ?_))))))
     cases h10
     exact hB4 _ rfl _ _ (Gh.ren0 [0, 1, 2] (.cells rfl rfl (.keep .nils .nil) (.cells rfl rfl (.keep .nils .nil) (.same rfl (ekI.fref _ _) .nil))) rfl (.cons rfl (.dat (ek_TItem.rlst)) (.cons rfl (.ptr rfl) (.cons rfl (.ptr rfl) (.cons rfl (.slq rfl rfl) (.cons rfl (.dat .int) .nil))))))
    ·have h11 := iteBT h9 hb
     refine rl.run 4 rfl (rl.done ?_)
     cases hb : (!v5.2)
     ·have h12 := iteBF h11 hb
      refine RW.cond_f rfl (RW.skip (RW.reg (rl.run 3 rfl (rl.done ?_))))
      cases h12
      exact hB4 _ rfl _ _ (Gh.ren0 [0, 1, 2] (.cells rfl rfl (.keep .nils .nil) (.cells rfl rfl (.keep .nils .nil) (.same rfl (ekI.fref _ _) .nil))) rfl (.cons rfl (.dat (ek_TItem.rlst)) (.cons rfl (.ptr rfl) (.cons rfl (.ptr rfl) (.cons rfl (.slq rfl rfl) (.cons rfl (.dat .int) .nil))))))
     ·have h13 := iteBT h11 hb
      refine RW.cond_t rfl (RW.reg (rl.run 3 rfl ?_))
      obtain ⟨v6, e6, h14⟩ := bindS h13
      refine rl.call rfl rfl rfl (CallW.own (r' := .sl 5 0 v6.length) (H' := [some ⟨[.nils], 0⟩, some ⟨[.nils], 0⟩, some ⟨fl (encI true) s2.2, 1⟩, some ⟨[.j v4.Rec.Kind, .j v4.Rec.Valid, .j v4.Rec.Uid, .j v4.Rec.Next, .j v4.Rec.Flags, .str v4.Rec.User, .str v4.Rec.Name, .str v4.Rec.Text], 0⟩, some ⟨[.j v5.1.Seq, .j v5.1.Rec.Kind, .j v5.1.Rec.Valid, .j v5.1.Rec.Uid, .j v5.1.Rec.Next, .j v5.1.Rec.Flags, .str v5.1.Rec.User, .str v5.1.Rec.Name, .str v5.1.Rec.Text], 0⟩, some ⟨fl (encI true) v6, 1⟩]) ok_spec_l07Sorted (law_spec_l07Sorted e6) (.cons (.slq ekI rfl rfl) (.cons .int .nil)) (.lst (ekI.fown _)) rfl ?_)
      refine rl.run 1 rfl (rl.done (RW.reg (rl.run 3 rfl (rl.done ?_))))
      cases h14
      exact hB4 _ rfl _ _ (Gh.ren0 [0, 1, 5] (.cells rfl rfl (.keep .nils .nil) (.cells rfl rfl (.keep .nils .nil) (.same rfl (ekI.fref _ _) .nil))) rfl (.cons rfl (.dat (ek_TItem.rlst)) (.cons rfl (.ptr rfl) (.cons rfl (.ptr rfl) (.cons rfl (.slq rfl rfl) (.cons rfl (.dat .int) .nil))))))
  ·intro y3 hC
   subst hC
   refine RW.seq (RW.sreg (rl.run 1 rfl (rl.done ?_)))
   refine RW.gh (Gh.nil_c 1 0 5 rfl rfl) ?_
   obtain ⟨y18, ey18, h16⟩ := bindS h5
   refine RW.cutq (σ := (List TBox)) (fun y9 => [(2, .ptr 0 0), (3, .ptr 1 0)]) (fun y9 => [some ⟨[.nils], 0⟩, some ⟨[.sl 2 0 y9.length], 0⟩, some ⟨fl (enc_TBox true) y9, 5⟩]) (fun y => y18 = y) (fun _ _ _ _ g h => RW.gh g h) ?_ ?_
   ·refine RW.blk ?_
    refine RW.iter (σ := Int × (List TBox)) ey18 (fun s8 => [(0, L_TItem x0), (2, .ptr 0 0), (3, .ptr 1 0), (4, .sl 2 0 y7.length), (9, .j s8.1)]) (fun s8 => [some ⟨[.nils], 0⟩, some ⟨[.sl 3 0 s8.2.length], 0⟩, some ⟨fl (encI true) y7, 1⟩, some ⟨fl (enc_TBox true) s8.2, 5⟩]) (Gh.ren0 [0, 1, 2, 3] (.cells rfl rfl (.keep .nils .nil) (.cells rfl rfl (.slq rfl rfl .nil) (.same rfl (ekI.fref _ _) (.same rfl (ek_TBox.fref _ _) .nil)))) rfl (.cons rfl (.dat (ek_TItem.rlst)) (.cons rfl (.ptr rfl) (.cons rfl (.ptr rfl) (.cons rfl (.slq rfl rfl) (.cons rfl (.dat .int) .nil)))))) (fun s8 B o hS15 hB15 hE15 => ?_)
    unfold S_spec_StateOf_2 at hS15
    refine RW.seq (RW.sreg (rl.run 3 rfl ?_))
    refine rl.gen rfl rfl fun b hb => ?_
    cases b
    ·have h17 := iteBF hS15 hb
     refine rl.done (RW.cond_f rfl (RW.exit (blkA_eq ?_)))
     cases h17
     exact ⟨_, (hE15 _ rfl).symm, (Gh.ren0 [0, 1, 3] (.cells rfl rfl (.keep .nils .nil) (.cells rfl rfl (.slq rfl rfl .nil) (.same rfl (ek_TBox.fref _ _) .nil))) rfl (.cons rfl (.ptr rfl) (.cons rfl (.ptr rfl) .nil)))⟩
    ·have h18 := iteBT hS15 hb
     refine rl.done (RW.cond_t rfl (RW.skip (RW.seq (RW.blk (RW.sreg (rl.run 3 rfl ?_))))))
     obtain ⟨v10, e10, h19⟩ := bindS h18
     refine rl.op (x_ia_sl rfl rfl rfl rfl e10) ?_
     refine rl.op (x_ld_sl (off' := 0) ekI rfl rfl e10 rfl rfl rfl) ?_
     obtain ⟨v11, e11, h20⟩ := bindS h19
     refine rl.call rfl rfl rfl (CallW.val (r' := .agg (enc_TItem false v11)) ok_spec_l07Tell (law_spec_l07Tell e11) (.cons (.lst ek_TItem) (.cons .int .nil)) .refl ?_)
     refine rl.run 2 rfl (rl.done (RW.drw (rdraw.op rfl rfl (rdraw.op rfl rfl (rdraw.op rfl rfl (rdraw.op rfl rfl ?_))))))
     obtain ⟨v12, e12, h21⟩ := bindS h20
     refine rdraw.op rfl (x_ia_sl rfl rfl rfl rfl e12) ?_
     refine rdraw.op rfl (x_ld_sl (off' := 0) ekI rfl rfl e12 rfl rfl rfl) ?_
     refine rdraw.op rfl rfl (rdraw.op rfl rfl (rdraw.op rfl rfl (rdraw.op rfl rfl (rdraw.op rfl rfl (rdraw.op rfl rfl (rdraw.op rfl rfl (rdraw.op rfl rfl (rdraw.op rfl rfl ?_))))))))
     obtain ⟨v13, e13, h22⟩ := bindS h21
     refine rdraw.op rfl (x_ia_sl rfl rfl rfl rfl e13) ?_
     refine rdraw.op rfl (x_ld_sl (off' := 0) ekI rfl rfl e13 rfl rfl rfl) ?_
     obtain ⟨v14, e14, h23⟩ := bindS h22
     refine rdraw.call rfl rfl rfl (CallW.val (r' := .j v14) ok_spec_l07Next (law_spec_l07Next e14) (.cons (.lst ek_TItem) (.cons .int .nil)) .refl ⟨rfl, ?_⟩)
     refine rdraw.op rfl rfl (rdraw.op rfl rfl (rdraw.op rfl rfl ?_))
     obtain ⟨v15, e15, h24⟩ := bindS h23
     refine rdraw.op rfl (x_ia_sl rfl rfl rfl rfl e15) ?_
     refine rdraw.op rfl (x_ld_sl (off' := 0) ekI rfl rfl e15 rfl rfl rfl) ?_
     obtain ⟨v16, e16, h25⟩ := bindS h24
     refine rdraw.ccallB rfl rfl rfl (CallW.own (r' := .sl 5 0 v16.length) (H' := [some ⟨[.nils], 0⟩, some ⟨[.sl 3 0 s8.2.length], 0⟩, some ⟨fl (encI true) y7, 1⟩, some ⟨fl (enc_TBox true) s8.2, 5⟩, some ⟨[.j v11.Seq, .j v11.Rec.Kind, .j v11.Rec.Valid, .j v11.Rec.Uid, .j v11.Rec.Next, .j v11.Rec.Flags, .str v11.Rec.User, .str v11.Rec.Name, .str v11.Rec.Text], 0⟩, some ⟨fl (enc_TMail true) v16, 3⟩]) ok_spec_l07Mails (law_spec_l07Mails e16) (.cons (.lst ek_TItem) (.cons .int .nil)) (.lst (ek_TMail.fown _)) rfl ⟨(.skip rfl (.skip rfl (.skip rfl (.skip rfl (.skip rfl (.skip rfl (.skip rfl (.skip rfl (.skip rfl (.skip rfl (.skip rfl (.here (.rx rfl) (.here (.rx rfl) (.here (.rx rfl) (.here (.rx rfl) (.here (.rx rfl) (.here (.rx rfl) (.here (.rx (x_ld_sl (off' := 0) ekI rfl rfl e12 rfl rfl rfl)) (.here (.rx (x_ia_sl rfl rfl rfl rfl e12)) (.here (.rx rfl) (.here (.rx rfl) (.here (.rx rfl) (.here (.rx rfl) .nil))))))))))))))))))))))), ?_⟩)
     refine rdraw.op rfl rfl ?_
     refine rdraw.chnB rfl rfl (.skip rfl (.skip rfl (.skip rfl (.skip rfl (.skip rfl (.skip rfl (.skip rfl (.skip rfl (.skip rfl (.skip rfl (.skip rfl (.skip rfl (.skip rfl (.skip rfl (.skip rfl (.skip rfl (.skip rfl (.skip rfl (.skip rfl (.skip rfl (.skip rfl (.skip rfl (.here (.rx rfl) (.here (.rx rfl) .nil)))))))))))))))))))))))) ?_
     obtain ⟨v17, e17, h26⟩ := bindS h25
     refine rdraw.chn rfl (x_app rfl rfl (rapp_raw ek_TBox rfl rfl (acont_one rfl rfl rfl) e17)) ?_
     refine rdraw.op rfl rfl ?_
     refine rdraw.chn rfl rfl ?_
     refine rdraw.done ?_
     refine RW.gh (Gh.absorb_rawq (b := 7) (j := 4) (m := 5) rfl rfl rfl (by decide) (by decide) rfl (ek_TMail.flen true _) (ek_TMail.fown _)) ?_
     refine RW.gh (Gh.blk (b := 7) rfl (raw_app (enc := enc_TBox) e17 rfl)) ?_
     refine RW.reg (rl.run 3 rfl (rl.done ?_))
     cases h26
     exact hB15 _ rfl _ _ (Gh.ren0 [0, 1, 2, 7] (.cells rfl rfl (.keep .nils .nil) (.cells rfl rfl (.slq rfl rfl .nil) (.same rfl (ekI.fref _ _) (.same rfl (ek_TBox.fref _ _) .nil)))) rfl (.cons rfl (.dat (ek_TItem.rlst)) (.cons rfl (.ptr rfl) (.cons rfl (.ptr rfl) (.cons rfl (.slq rfl rfl) (.cons rfl (.dat .int) .nil))))))
   ·intro y9 hC
    subst hC
    refine RW.sreg (rl.run 2 rfl (rl.done (RW.ret ?_)))
    cases h16
    exact RRet.mk rfl (OutL.agg (.cons (OutR.ownq ek_TBox rfl rfl) rfl .nil)) (by first | decide | simp)
theorem law_spec_ItemsOf {x0 : TLog} {r : List TItem} (hF : F_spec_ItemsOf x0 = some r) : PCalls Tryz.prog 50 [.agg (enc_TLog false x0)] (.lst true 9 (fl (enc_TItem true) r) r.length) := by
 refine PCalls.of_r k_spec_ItemsOf rfl ?_
 unfold F_spec_ItemsOf at hF
 refine RW.sreg (rl.run 2 rfl (rl.done (RW.sreg (rl.run 2 rfl (rl.done (RW.seq (RW.sreg (rl.run 1 rfl (rl.done ?_)))))))))
 refine RW.gh (Gh.nil_t 3 9 rfl) ?_
 obtain ⟨y5, ey5, h2⟩ := bindS hF
 refine RW.cutq (σ := (List TItem)) (fun y2 => [(3, .sl 0 0 y2.length)]) (fun y2 => [some ⟨fl (enc_TItem true) y2, 9⟩]) (fun y => y5 = y) (fun _ _ _ _ g h => RW.gh g h) ?_ ?_
 ·refine RW.blk ?_
  refine RW.iter (σ := Int × (List TItem)) ey5 (fun s1 => [(1, .ptr 0 0), (3, .sl 1 0 s1.2.length), (4, .j s1.1)]) (fun s1 => [some ⟨[L_S x0.Disk.Sectors, L_TWrite x0.Disk.Cache, .j x0.Segs, L_TSeg x0.Used, .j x0.NextGen, .j x0.NextSeq, .j x0.Stamp, .j x0.NextValid], 0⟩, some ⟨fl (enc_TItem true) s1.2, 9⟩]) (Gh.ren0 [0, 1] (.cells rfl rfl (.keep (ekS.rlst) (.keep (ek_TWrite.rlst) (.keep .int (.keep (ek_TSeg.rlst) (.keep .int (.keep .int (.keep .int (.keep .int .nil)))))))) (.same rfl (ek_TItem.fref _ _) .nil)) rfl (.cons rfl (.ptr rfl) (.cons rfl (.slq rfl rfl) (.cons rfl (.dat .int) .nil)))) (fun s1 B o hS1 hB1 hE1 => ?_)
  unfold S_spec_ItemsOf_1 at hS1
  refine RW.seq (RW.sreg (rl.run 4 rfl ?_))
  refine rl.gen rfl rfl fun b hb => ?_
  cases b
  ·have h3 := iteBF hS1 hb
   refine rl.done (RW.cond_f rfl (RW.exit (blkA_eq ?_)))
   cases h3
   exact ⟨_, (hE1 _ rfl).symm, (Gh.ren0 [1] (.same rfl (ek_TItem.fref _ _) .nil) rfl (.cons rfl (.slq rfl rfl) .nil))⟩
  ·have h4 := iteBT hS1 hb
   refine rl.done (RW.cond_t rfl (RW.skip (RW.seq (RW.blk (RW.reg (rl.run 4 rfl ?_))))))
   obtain ⟨v3, e3, h5⟩ := bindS h4
   refine rl.op (x_ia_lst (enc := enc_TSeg) (o := false) rfl rfl rfl e3) ?_
   refine rl.run 1 rfl ?_
   refine rl.op (x_ld_el (off' := 3) ek_TSeg rfl e3 rfl rfl rfl) ?_
   obtain ⟨v4, e4, h6⟩ := bindS h5
   refine rl.op (x_app rfl rfl (rapp_sl (l := s1.2) (m := v3.Items) (o := true) ek_TItem rfl rfl acont_lst rfl (fk_TItem.fst _ _) e4)) ?_
   refine rl.run 1 rfl (rl.done (RW.reg (rl.run 3 rfl (rl.done ?_))))
   cases h6
   exact hB1 _ rfl _ _ (Gh.ren0 [0, 2] (.cells rfl rfl (.keep (ekS.rlst) (.keep (ek_TWrite.rlst) (.keep .int (.keep (ek_TSeg.rlst) (.keep .int (.keep .int (.keep .int (.keep .int .nil)))))))) (.same rfl (ek_TItem.fref _ _) .nil)) rfl (.cons rfl (.ptr rfl) (.cons rfl (.slq rfl rfl) (.cons rfl (.dat .int) .nil))))
 ·intro y2 hC
  subst hC
  refine RW.sreg (rl.run 2 rfl (rl.done (RW.ret ?_)))
  cases h2
  exact RRet.mk rfl (OutR.ownq ek_TItem rfl rfl) (by first | decide | simp)
theorem law_spec_StateNow {x0 : TStore} {r : TState} (hF : F_spec_StateNow x0 = some r) : PCalls Tryz.prog 18 [.agg (enc_TStore false x0)] (.agg (enc_TState true r)) := by
 refine PCalls.of_r k_spec_StateNow rfl ?_
 unfold F_spec_StateNow at hF
 refine RW.sreg (rl.run 2 rfl (rl.done (RW.sreg (rl.run 2 rfl ?_))))
 obtain ⟨v1, e1, h1⟩ := bindS hF
 refine rl.call rfl rfl rfl (CallW.val (r' := L_TItem v1) ok_spec_ItemsOf (law_spec_ItemsOf e1) (.cons (DFL.agg (.cons (.lst ekS) (.cons (.lst ek_TWrite) (.cons .int (.cons (.lst ek_TSeg) (.cons .int (.cons .int (.cons .int (.cons .int .nil))))))))) .nil) (ek_TItem.fflag _).lst ?_)
 obtain ⟨v2, e2, h2⟩ := bindS h1
 refine rl.call rfl rfl rfl (CallW.own (r' := .agg [.sl 2 0 v2.Boxes.length]) (H' := [some ⟨[L_S x0.Log.Disk.Sectors, L_TWrite x0.Log.Disk.Cache, .j x0.Log.Segs, L_TSeg x0.Log.Used, .j x0.Log.NextGen, .j x0.Log.NextSeq, .j x0.Log.Stamp, .j x0.Log.NextValid, L_I x0.Freed], 0⟩, some ⟨[.nils], 0⟩, some ⟨fl (enc_TBox true) v2.Boxes, 5⟩]) ok_spec_StateOf (law_spec_StateOf e2) (.cons (.lst ek_TItem) .nil) (ek_TState.own _) rfl ?_)
 refine rl.run 1 rfl (rl.done (RW.ret ?_))
 cases h2
 exact RRet.mk rfl (OutL.agg (.cons (OutR.ownq ek_TBox rfl rfl) rfl .nil)) (by first | decide | simp)
theorem law_spec_FrameOk {x0 : TFrame} {r : Bool} (hF : F_spec_FrameOk x0 = some r) : PCalls Tryz.prog 117 [.agg (enc_TFrame false x0)] (.bool r) := by
 refine PCalls.of_r k_spec_FrameOk rfl ?_
 unfold F_spec_FrameOk at hF
 refine RW.sreg (rl.run 2 rfl (rl.done (RW.seq ?_)))
 obtain ⟨y1, ey1, h1⟩ := bindS hF
 refine RW.cutq (σ := Bool) (fun y1 => [(2, .bool y1)]) (fun y1 => []) (fun y => y1 = y) (fun _ _ _ _ g h => RW.gh g h) ?_ ?_
 ·refine RW.reg ?_
  refine rl.run 2 rfl ?_
  obtain ⟨v2, e2, h2⟩ := bindS ey1
  refine rl.call rfl rfl rfl (CallW.val (r' := .bool v2) ok_spec_l01In (law_spec_l01In e2) (.cons .int (.cons .int (.cons .int .nil))) .refl ?_)
  cases hb : v2
  ·have h3 := iteBF h2 hb
   refine rl.run 12 rfl (rl.done ?_)
   cases h3
   exact ⟨_, rfl, (Gh.ren0 [] .nil rfl (.cons rfl (.dat .bool) .nil))⟩
  ·have h4 := iteBT h2 hb
   refine rl.run 3 rfl ?_
   obtain ⟨v3, e3, h5⟩ := bindS h4
   refine rl.call rfl rfl rfl (CallW.val (r' := .bool v3) ok_spec_l01In (law_spec_l01In e3) (.cons .int (.cons .int (.cons .int .nil))) .refl ?_)
   cases hb : v3
   ·have h6 := iteBF h5 hb
    refine rl.run 8 rfl (rl.done ?_)
    cases h6
    exact ⟨_, rfl, (Gh.ren0 [] .nil rfl (.cons rfl (.dat .bool) .nil))⟩
   ·have h7 := iteBT h5 hb
    refine rl.run 5 rfl ?_
    obtain ⟨v4, e4, h8⟩ := bindS h7
    refine rl.call rfl rfl rfl (CallW.val (r' := .bool v4) ok_spec_l01In (law_spec_l01In e4) (.cons .int (.cons .int (.cons .int .nil))) .refl ?_)
    refine rl.run 2 rfl (rl.done ?_)
    cases h8
    exact ⟨_, rfl, (Gh.ren0 [] .nil rfl (.cons rfl (.dat .bool) .nil))⟩
 ·intro y hC
  subst hC
  refine RW.ret ?_
  cases h1
  exact RRet.mk rfl .bool (by first | decide | simp)
theorem law_spec_l01Var {x0 : Int} {r : List UInt8} (hF : F_spec_l01Var x0 = some r) : PCalls Tryz.prog 119 [.j x0] (.str r) := by
 refine PCalls.of_r k_spec_l01Var rfl ?_
 unfold F_spec_l01Var at hF
 refine RW.sreg (rl.run 1 rfl (rl.done (RW.sreg (rl.run 2 rfl (rl.done (RW.seq ?_))))))
 refine RW.gh (Gh.nil_t 3 1 rfl) ?_
 obtain ⟨y4, ey4, h2⟩ := bindS hF
 refine RW.cutq (σ := Int × (List Int)) (fun y2 => [(0, .j y2.1), (3, .sl 0 0 y2.2.length)]) (fun y2 => [some ⟨fl (encB true) y2.2, 1⟩]) (fun y => y4 = y) (fun _ _ _ _ g h => RW.gh g h) ?_ ?_
 ·refine RW.blk ?_
  refine RW.iter (σ := Int × (List Int)) ey4 (fun s1 => [(0, .j s1.1), (3, .sl 0 0 s1.2.length)]) (fun s1 => [some ⟨fl (encB true) s1.2, 1⟩]) (Gh.ren0 [0] (.same rfl (ekB.fref _ _) .nil) rfl (.cons rfl (.dat .int) (.cons rfl (.slq rfl rfl) .nil))) (fun s1 B o hS1 hB1 hE1 => ?_)
  unfold S_spec_l01Var_1 at hS1
  refine RW.seq (RW.sreg (rl.run 1 rfl ?_))
  refine rl.gen rfl rfl fun b hb => ?_
  cases b
  ·have h3 := iteBF hS1 hb
   refine rl.done (RW.cond_f rfl (RW.exit (blkA_eq ?_)))
   cases h3
   exact ⟨_, (hE1 _ rfl).symm, (Gh.ren0 [0] (.same rfl (ekB.fref _ _) .nil) rfl (.cons rfl (.dat .int) (.cons rfl (.slq rfl rfl) .nil)))⟩
  ·have h4 := iteBT hS1 hb
   refine rl.done (RW.cond_t rfl (RW.skip (RW.blk (RW.sreg (rl.run 6 rfl ?_)))))
   obtain ⟨v3, e3, h5⟩ := bindS h4
   refine rl.op (x_app rfl rfl (rapp_sl (l := s1.2) (m := [IntKind.u8.wrap (w64 ((Int.tmod s1.1 128) + 128))]) (o := true) ekB rfl rfl (acont_slq (m := [IntKind.u8.wrap (w64 ((Int.tmod s1.1 128) + 128))]) (o := true) fkB rfl rfl) rfl (fkB.fst _ _) e3)) ?_
   refine rl.run 1 rfl (rl.done (RW.reg (rl.run 3 rfl (rl.done ?_))))
   cases h5
   exact hB1 _ rfl _ _ (Gh.ren0 [2] (.same rfl (ekB.fref _ _) .nil) rfl (.cons rfl (.dat .int) (.cons rfl (.slq rfl rfl) .nil)))
 ·intro y2 hC
  subst hC
  refine RW.sreg (rl.run 4 rfl ?_)
  obtain ⟨v5, e5, h6⟩ := bindS h2
  refine rl.op (x_app rfl rfl (rapp_sl (l := y4.2) (m := [IntKind.u8.wrap y4.1]) (o := true) ekB rfl rfl (acont_slq (m := [IntKind.u8.wrap y4.1]) (o := true) fkB rfl rfl) rfl (fkB.fst _ _) e5)) ?_
  refine rl.op (x_cvb_sl (o := true) (l := v5) rfl rfl) ?_
  refine rl.run 1 rfl (rl.done (RW.ret ?_))
  cases h6
  exact RRet.mk rfl .str (by first | decide | simp)
theorem law_spec_l06Short {x0 : List UInt8} {r : List UInt8} (hF : F_spec_l06Short x0 = some r) : PCalls Tryz.prog 122 [.str x0] (.str r) := by
 refine PCalls.of_r k_spec_l06Short rfl ?_
 unfold F_spec_l06Short at hF
 refine RW.sreg (rl.run 1 rfl (rl.done (RW.sreg (rl.run 2 rfl ?_))))
 obtain ⟨v1, e1, h1⟩ := bindS hF
 refine rl.call rfl rfl rfl (CallW.val (r' := .str v1) ok_spec_l01Var (law_spec_l01Var e1) (.cons .int .nil) .refl ?_)
 refine rl.run 1 rfl ?_
 obtain ⟨v2, e2, h2⟩ := bindS h1
 refine rl.op (x_cat rfl rfl e2) ?_
 refine rl.run 1 rfl (rl.done (RW.ret ?_))
 cases h2
 exact RRet.mk rfl .str (by first | decide | simp)
end Go.Proofs.YtcehlicmghnghaaGreat.V
