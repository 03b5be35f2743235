/- What a call comes to. -/
import Derived.Test.YtldndhdohlfpgaaXD1
namespace Go.Proofs.Ytldndhdohlfpgaa.V
open Go Go.Proofs Go.RowKit
set_option maxRecDepth 100000
set_option maxHeartbeats 2000000 in
theorem law_spec_RecOk {x0 : TRec} {r : Bool} (hF : F_spec_RecOk x0 = some r) : PCalls Try.prog 86 [.agg (enc_TRec false x0)] (.bool r):=by
 refine PCalls.of_r k_spec_RecOk rfl ?_
 unfold F_spec_RecOk at hF
 refine RW.sreg (rl.run 2 rfl (rl.done (RW.seq (RW.seq ?_))))
 obtain ⟨y1,ey1,h1⟩:=bindS hF
 refine RW.cutq (σ:=Bool) (fun y1=>[(1,.ptr 0 0),(15,.bool y1)]) (fun y1=>[some ⟨[.j x0.Kind,.j x0.Valid,.j x0.Uid,.j x0.Next,.j x0.Flags,.str x0.User,.str x0.Name,.str x0.Text],0⟩]) (fun y=>y1 = y) (fun _ _ _ _ g h=>RW.gh g h) ?_ ?_
 ·refine RW.reg ?_
  refine rl.run 2 rfl ?_
  obtain ⟨v2,e2,h2⟩:=bindS ey1
  refine rl.call rfl rfl rfl (CallW.val (r':=.bool v2) ok_spec_l01In (law_spec_l01In e2) (.cons .int (.cons .int (.cons .int .nil))) .refl ?_)
  cases hb : v2
  ·have h3:=iteBF h2 hb
   refine rl.run 7 rfl (rl.done ?_)
   cases h3
   exact ⟨_,rfl,(Gh.ren0 [0] (.cells rfl rfl (.keep .int (.keep .int (.keep .int (.keep .int (.keep .int (.keep .str (.keep .str (.keep .str .nil)))))))) .nil) rfl (.cons rfl (.ptr rfl) (.cons rfl (.dat .bool) .nil)))⟩
  ·have h4:=iteBT h2 hb
   refine rl.run 4 rfl ?_
   obtain ⟨v3,e3,h5⟩:=bindS h4
   refine rl.call rfl rfl rfl (CallW.val (r':=.bool v3) ok_spec_l01In (law_spec_l01In e3) (.cons .int (.cons .int (.cons .int .nil))) .refl ?_)
   cases hb : v3
   ·have h6:=iteBF h5 hb
    refine rl.run 2 rfl (rl.done ?_)
    cases h6
    exact ⟨_,rfl,(Gh.ren0 [0] (.cells rfl rfl (.keep .int (.keep .int (.keep .int (.keep .int (.keep .int (.keep .str (.keep .str (.keep .str .nil)))))))) .nil) rfl (.cons rfl (.ptr rfl) (.cons rfl (.dat .bool) .nil)))⟩
   ·have h7:=iteBT h5 hb
    refine rl.run 2 rfl (rl.done ?_)
    cases h7
    exact ⟨_,rfl,(Gh.ren0 [0] (.cells rfl rfl (.keep .int (.keep .int (.keep .int (.keep .int (.keep .int (.keep .str (.keep .str (.keep .str .nil)))))))) .nil) rfl (.cons rfl (.ptr rfl) (.cons rfl (.dat .bool) .nil)))⟩
 ·intro y hC
  subst hC
  cases hb : y1
  ·have h8:=iteBF h1 hb
   refine RW.cond_f rfl (RW.skip (RW.sreg (rl.run 2 rfl ?_)))
   refine rl.gen rfl rfl fun b hb=>?_
   cases b
   ·have h9:=iteBF h8 hb
    refine rl.run 1 rfl (rl.done (RW.seq ?_))
    obtain ⟨y4,ey4,h10⟩:=bindS h9
    refine RW.cutq (σ:=Bool) (fun y4=>[(1,.ptr 0 0),(3,.bool false),(4,.bool y4)]) (fun y4=>[some ⟨[.j x0.Kind,.j x0.Valid,.j x0.Uid,.j x0.Next,.j x0.Flags,.str x0.User,.str x0.Name,.str x0.Text],0⟩]) (fun y=>y4 = y) (fun _ _ _ _ g h=>RW.gh g h) ?_ ?_
    ·refine RW.reg ?_
     refine rl.run 2 rfl ?_
     refine rl.gen rfl rfl fun b hb=>?_
     cases b
     ·have h11:=iteBF ey4 hb
      refine rl.run 3 rfl ?_
      refine rl.gen rfl rfl fun b hb=>?_
      cases b
      ·have h12:=iteBF h11 hb
       refine rl.run 4 rfl ?_
       refine rl.gen rfl rfl fun b hb=>?_
       cases b
       ·have h13:=iteBF h12 hb
        refine rl.run 2 rfl (rl.done ?_)
        cases h13
        exact ⟨_,rfl,(Gh.ren0 [0] (.cells rfl rfl (.keep .int (.keep .int (.keep .int (.keep .int (.keep .int (.keep .str (.keep .str (.keep .str .nil)))))))) .nil) rfl (.cons rfl (.ptr rfl) (.cons rfl (.dat .bool) (.cons rfl (.dat .bool) .nil))))⟩
       ·have h14:=iteBT h12 hb
        refine rl.run 2 rfl (rl.done ?_)
        cases h14
        exact ⟨_,rfl,(Gh.ren0 [0] (.cells rfl rfl (.keep .int (.keep .int (.keep .int (.keep .int (.keep .int (.keep .str (.keep .str (.keep .str .nil)))))))) .nil) rfl (.cons rfl (.ptr rfl) (.cons rfl (.dat .bool) (.cons rfl (.dat .bool) .nil))))⟩
      ·have h15:=iteBT h11 hb
       refine rl.run 7 rfl (rl.done ?_)
       cases h15
       exact ⟨_,rfl,(Gh.ren0 [0] (.cells rfl rfl (.keep .int (.keep .int (.keep .int (.keep .int (.keep .int (.keep .str (.keep .str (.keep .str .nil)))))))) .nil) rfl (.cons rfl (.ptr rfl) (.cons rfl (.dat .bool) (.cons rfl (.dat .bool) .nil))))⟩
     ·have h16:=iteBT ey4 hb
      refine rl.run 11 rfl (rl.done ?_)
      cases h16
      exact ⟨_,rfl,(Gh.ren0 [0] (.cells rfl rfl (.keep .int (.keep .int (.keep .int (.keep .int (.keep .int (.keep .str (.keep .str (.keep .str .nil)))))))) .nil) rfl (.cons rfl (.ptr rfl) (.cons rfl (.dat .bool) (.cons rfl (.dat .bool) .nil))))⟩
    ·intro y hC
     subst hC
     refine RW.seq ?_
     obtain ⟨y5,ey5,h17⟩:=bindS h10
     refine RW.cutq (σ:=Bool) (fun y5=>[(1,.ptr 0 0),(3,.bool false),(4,.bool y4),(5,.bool y5)]) (fun y5=>[some ⟨[.j x0.Kind,.j x0.Valid,.j x0.Uid,.j x0.Next,.j x0.Flags,.str x0.User,.str x0.Name,.str x0.Text],0⟩]) (fun y=>y5 = y) (fun _ _ _ _ g h=>RW.gh g h) ?_ ?_
     ·refine RW.reg ?_
      refine rl.run 2 rfl ?_
      refine rl.gen rfl rfl fun b hb=>?_
      cases b
      ·have h18:=iteBF ey5 hb
       refine rl.run 3 rfl ?_
       refine rl.gen rfl rfl fun b hb=>?_
       cases b
       ·have h19:=iteBF h18 hb
        refine rl.run 2 rfl (rl.done ?_)
        cases h19
        exact ⟨_,rfl,(Gh.ren0 [0] (.cells rfl rfl (.keep .int (.keep .int (.keep .int (.keep .int (.keep .int (.keep .str (.keep .str (.keep .str .nil)))))))) .nil) rfl (.cons rfl (.ptr rfl) (.cons rfl (.dat .bool) (.cons rfl (.dat .bool) (.cons rfl (.dat .bool) .nil)))))⟩
       ·have h20:=iteBT h18 hb
        refine rl.run 2 rfl (rl.done ?_)
        cases h20
        exact ⟨_,rfl,(Gh.ren0 [0] (.cells rfl rfl (.keep .int (.keep .int (.keep .int (.keep .int (.keep .int (.keep .str (.keep .str (.keep .str .nil)))))))) .nil) rfl (.cons rfl (.ptr rfl) (.cons rfl (.dat .bool) (.cons rfl (.dat .bool) (.cons rfl (.dat .bool) .nil)))))⟩
      ·have h21:=iteBT ey5 hb
       refine rl.run 6 rfl (rl.done ?_)
       cases h21
       exact ⟨_,rfl,(Gh.ren0 [0] (.cells rfl rfl (.keep .int (.keep .int (.keep .int (.keep .int (.keep .int (.keep .str (.keep .str (.keep .str .nil)))))))) .nil) rfl (.cons rfl (.ptr rfl) (.cons rfl (.dat .bool) (.cons rfl (.dat .bool) (.cons rfl (.dat .bool) .nil)))))⟩
     ·intro y hC
      subst hC
      refine RW.seq (RW.seq ?_)
      obtain ⟨y6,ey6,h22⟩:=bindS h17
      refine RW.cutq (σ:=Bool) (fun y6=>[(1,.ptr 0 0),(4,.bool y4),(5,.bool y5),(77,.bool y6)]) (fun y6=>[some ⟨[.j x0.Kind,.j x0.Valid,.j x0.Uid,.j x0.Next,.j x0.Flags,.str x0.User,.str x0.Name,.str x0.Text],0⟩]) (fun y=>y6 = y) (fun _ _ _ _ g h=>RW.gh g h) ?_ ?_
      ·refine RW.reg ?_
       refine rl.run 25 rfl ?_
       refine rl.gen rfl rfl fun b hb=>?_
       cases b
       ·have h23:=iteBF ey6 hb
        refine rl.run 3 rfl ?_
        refine rl.gen rfl rfl fun b hb=>?_
        cases b
        ·have h24:=iteBF h23 hb
         refine rl.run 4 rfl ?_
         refine rl.gen rfl rfl fun b hb=>?_
         cases b
         ·have h25:=iteBF h24 hb
          refine rl.run 3 rfl (rl.done ?_)
          cases h25
          exact ⟨_,rfl,(Gh.ren0 [0] (.cells rfl rfl (.keep .int (.keep .int (.keep .int (.keep .int (.keep .int (.keep .str (.keep .str (.keep .str .nil)))))))) .nil) rfl (.cons rfl (.ptr rfl) (.cons rfl (.dat .bool) (.cons rfl (.dat .bool) (.cons rfl (.dat .bool) .nil)))))⟩
         ·have h26:=iteBT h24 hb
          refine rl.run 3 rfl (rl.done ?_)
          cases h26
          exact ⟨_,rfl,(Gh.ren0 [0] (.cells rfl rfl (.keep .int (.keep .int (.keep .int (.keep .int (.keep .int (.keep .str (.keep .str (.keep .str .nil)))))))) .nil) rfl (.cons rfl (.ptr rfl) (.cons rfl (.dat .bool) (.cons rfl (.dat .bool) (.cons rfl (.dat .bool) .nil)))))⟩
        ·have h27:=iteBT h23 hb
         refine rl.run 8 rfl (rl.done ?_)
         cases h27
         exact ⟨_,rfl,(Gh.ren0 [0] (.cells rfl rfl (.keep .int (.keep .int (.keep .int (.keep .int (.keep .int (.keep .str (.keep .str (.keep .str .nil)))))))) .nil) rfl (.cons rfl (.ptr rfl) (.cons rfl (.dat .bool) (.cons rfl (.dat .bool) (.cons rfl (.dat .bool) .nil)))))⟩
       ·have h28:=iteBT ey6 hb
        refine rl.run 12 rfl (rl.done ?_)
        cases h28
        exact ⟨_,rfl,(Gh.ren0 [0] (.cells rfl rfl (.keep .int (.keep .int (.keep .int (.keep .int (.keep .int (.keep .str (.keep .str (.keep .str .nil)))))))) .nil) rfl (.cons rfl (.ptr rfl) (.cons rfl (.dat .bool) (.cons rfl (.dat .bool) (.cons rfl (.dat .bool) .nil)))))⟩
      ·intro y hC
       subst hC
       cases hb : y6
       ·have h29:=iteBF h22 hb
        refine RW.cond_f rfl (RW.skip (RW.seq (RW.seq ?_)))
        obtain ⟨y7,ey7,h30⟩:=bindS h29
        refine RW.cutq (σ:=Bool) (fun y7=>[(1,.ptr 0 0),(5,.bool y5),(93,.bool y7)]) (fun y7=>[some ⟨[.j x0.Kind,.j x0.Valid,.j x0.Uid,.j x0.Next,.j x0.Flags,.str x0.User,.str x0.Name,.str x0.Text],0⟩]) (fun y=>y7 = y) (fun _ _ _ _ g h=>RW.gh g h) ?_ ?_
        ·refine RW.reg ?_
         refine rl.run 2 rfl ?_
         cases hb : y4
         ·have h31:=iteBF ey7 hb
          refine rl.run 11 rfl ?_
          refine rl.gen rfl rfl fun b hb=>?_
          cases b
          ·have h32:=iteBF h31 hb
           refine rl.run 2 rfl (rl.done ?_)
           cases h32
           exact ⟨_,rfl,(Gh.ren0 [0] (.cells rfl rfl (.keep .int (.keep .int (.keep .int (.keep .int (.keep .int (.keep .str (.keep .str (.keep .str .nil)))))))) .nil) rfl (.cons rfl (.ptr rfl) (.cons rfl (.dat .bool) (.cons rfl (.dat .bool) .nil))))⟩
          ·have h33:=iteBT h31 hb
           refine rl.run 2 rfl (rl.done ?_)
           cases h33
           exact ⟨_,rfl,(Gh.ren0 [0] (.cells rfl rfl (.keep .int (.keep .int (.keep .int (.keep .int (.keep .int (.keep .str (.keep .str (.keep .str .nil)))))))) .nil) rfl (.cons rfl (.ptr rfl) (.cons rfl (.dat .bool) (.cons rfl (.dat .bool) .nil))))⟩
         ·have h34:=iteBT ey7 hb
          refine rl.run 2 rfl ?_
          obtain ⟨v8,e8,h35⟩:=bindS h34
          refine rl.call rfl rfl rfl (CallW.val (r':=.bool v8) ok_spec_l01In (law_spec_l01In e8) (.cons .int (.cons .int (.cons .int .nil))) .refl ?_)
          cases hb : v8
          ·have h36:=iteBF h35 hb
           refine rl.run 11 rfl (rl.done ?_)
           cases h36
           exact ⟨_,rfl,(Gh.ren0 [0] (.cells rfl rfl (.keep .int (.keep .int (.keep .int (.keep .int (.keep .int (.keep .str (.keep .str (.keep .str .nil)))))))) .nil) rfl (.cons rfl (.ptr rfl) (.cons rfl (.dat .bool) (.cons rfl (.dat .bool) .nil))))⟩
          ·have h37:=iteBT h35 hb
           refine rl.run 11 rfl (rl.done ?_)
           cases h37
           exact ⟨_,rfl,(Gh.ren0 [0] (.cells rfl rfl (.keep .int (.keep .int (.keep .int (.keep .int (.keep .int (.keep .str (.keep .str (.keep .str .nil)))))))) .nil) rfl (.cons rfl (.ptr rfl) (.cons rfl (.dat .bool) (.cons rfl (.dat .bool) .nil))))⟩
        ·intro y hC
         subst hC
         cases hb : y7
         ·have h38:=iteBF h30 hb
          refine RW.cond_f rfl (RW.skip (RW.seq (RW.seq ?_)))
          obtain ⟨y9,ey9,h39⟩:=bindS h38
          refine RW.cutq (σ:=Bool) (fun y9=>[(1,.ptr 0 0),(109,.bool y9)]) (fun y9=>[some ⟨[.j x0.Kind,.j x0.Valid,.j x0.Uid,.j x0.Next,.j x0.Flags,.str x0.User,.str x0.Name,.str x0.Text],0⟩]) (fun y=>y9 = y) (fun _ _ _ _ g h=>RW.gh g h) ?_ ?_
          ·refine RW.reg ?_
           refine rl.run 2 rfl ?_
           cases hb : y5
           ·have h40:=iteBF ey9 hb
            refine rl.run 11 rfl ?_
            refine rl.gen rfl rfl fun b hb=>?_
            cases b
            ·have h41:=iteBF h40 hb
             refine rl.run 2 rfl (rl.done ?_)
             cases h41
             exact ⟨_,rfl,(Gh.ren0 [0] (.cells rfl rfl (.keep .int (.keep .int (.keep .int (.keep .int (.keep .int (.keep .str (.keep .str (.keep .str .nil)))))))) .nil) rfl (.cons rfl (.ptr rfl) (.cons rfl (.dat .bool) .nil)))⟩
            ·have h42:=iteBT h40 hb
             refine rl.run 2 rfl (rl.done ?_)
             cases h42
             exact ⟨_,rfl,(Gh.ren0 [0] (.cells rfl rfl (.keep .int (.keep .int (.keep .int (.keep .int (.keep .int (.keep .str (.keep .str (.keep .str .nil)))))))) .nil) rfl (.cons rfl (.ptr rfl) (.cons rfl (.dat .bool) .nil)))⟩
           ·have h43:=iteBT ey9 hb
            refine rl.run 2 rfl ?_
            obtain ⟨v10,e10,h44⟩:=bindS h43
            refine rl.call rfl rfl rfl (CallW.val (r':=.bool v10) ok_spec_l01In (law_spec_l01In e10) (.cons .int (.cons .int (.cons .int .nil))) .refl ?_)
            cases hb : v10
            ·have h45:=iteBF h44 hb
             refine rl.run 11 rfl (rl.done ?_)
             cases h45
             exact ⟨_,rfl,(Gh.ren0 [0] (.cells rfl rfl (.keep .int (.keep .int (.keep .int (.keep .int (.keep .int (.keep .str (.keep .str (.keep .str .nil)))))))) .nil) rfl (.cons rfl (.ptr rfl) (.cons rfl (.dat .bool) .nil)))⟩
            ·have h46:=iteBT h44 hb
             refine rl.run 11 rfl (rl.done ?_)
             cases h46
             exact ⟨_,rfl,(Gh.ren0 [0] (.cells rfl rfl (.keep .int (.keep .int (.keep .int (.keep .int (.keep .int (.keep .str (.keep .str (.keep .str .nil)))))))) .nil) rfl (.cons rfl (.ptr rfl) (.cons rfl (.dat .bool) .nil)))⟩
          ·intro y hC
           subst hC
           cases hb : y9
           ·have h47:=iteBF h39 hb
            refine RW.cond_f rfl (RW.skip (RW.seq (RW.sreg (rl.run 2 rfl ?_))))
            refine rl.gen rfl rfl fun b hb=>?_
            cases b
            ·have h48:=iteBF h47 hb
             refine rl.done (RW.cond_f rfl (RW.skip (RW.sreg (rl.run 4 rfl (rl.done (RW.ret ?_))))))
             cases h48
             exact RRet.mk rfl .bool (by first | decide | simp)
            ·have h49:=iteBT h47 hb
             refine rl.done (RW.cond_t rfl (RW.sreg (rl.run 5 rfl (rl.done (RW.ret ?_)))))
             cases h49
             exact RRet.mk rfl .bool (by first | decide | simp)
           ·have h50:=iteBT h39 hb
            refine RW.cond_t rfl (RW.sreg (rl.run 1 rfl (rl.done (RW.ret ?_))))
            cases h50
            exact RRet.mk rfl .bool (by first | decide | simp)
         ·have h51:=iteBT h30 hb
          refine RW.cond_t rfl (RW.sreg (rl.run 1 rfl (rl.done (RW.ret ?_))))
          cases h51
          exact RRet.mk rfl .bool (by first | decide | simp)
       ·have h52:=iteBT h22 hb
        refine RW.cond_t rfl (RW.sreg (rl.run 1 rfl (rl.done (RW.ret ?_))))
        cases h52
        exact RRet.mk rfl .bool (by first | decide | simp)
   ·have h53:=iteBT h8 hb
    refine rl.run 1 rfl (rl.done (RW.seq ?_))
    obtain ⟨y11,ey11,h54⟩:=bindS h53
    refine RW.cutq (σ:=Bool) (fun y11=>[(1,.ptr 0 0),(3,.bool true),(4,.bool y11)]) (fun y11=>[some ⟨[.j x0.Kind,.j x0.Valid,.j x0.Uid,.j x0.Next,.j x0.Flags,.str x0.User,.str x0.Name,.str x0.Text],0⟩]) (fun y=>y11 = y) (fun _ _ _ _ g h=>RW.gh g h) ?_ ?_
    ·refine RW.reg ?_
     refine rl.run 2 rfl ?_
     refine rl.gen rfl rfl fun b hb=>?_
     cases b
     ·have h55:=iteBF ey11 hb
      refine rl.run 3 rfl ?_
      refine rl.gen rfl rfl fun b hb=>?_
      cases b
      ·have h56:=iteBF h55 hb
       refine rl.run 4 rfl ?_
       refine rl.gen rfl rfl fun b hb=>?_
       cases b
       ·have h57:=iteBF h56 hb
        refine rl.run 2 rfl (rl.done ?_)
        cases h57
        exact ⟨_,rfl,(Gh.ren0 [0] (.cells rfl rfl (.keep .int (.keep .int (.keep .int (.keep .int (.keep .int (.keep .str (.keep .str (.keep .str .nil)))))))) .nil) rfl (.cons rfl (.ptr rfl) (.cons rfl (.dat .bool) (.cons rfl (.dat .bool) .nil))))⟩
       ·have h58:=iteBT h56 hb
        refine rl.run 2 rfl (rl.done ?_)
        cases h58
        exact ⟨_,rfl,(Gh.ren0 [0] (.cells rfl rfl (.keep .int (.keep .int (.keep .int (.keep .int (.keep .int (.keep .str (.keep .str (.keep .str .nil)))))))) .nil) rfl (.cons rfl (.ptr rfl) (.cons rfl (.dat .bool) (.cons rfl (.dat .bool) .nil))))⟩
      ·have h59:=iteBT h55 hb
       refine rl.run 7 rfl (rl.done ?_)
       cases h59
       exact ⟨_,rfl,(Gh.ren0 [0] (.cells rfl rfl (.keep .int (.keep .int (.keep .int (.keep .int (.keep .int (.keep .str (.keep .str (.keep .str .nil)))))))) .nil) rfl (.cons rfl (.ptr rfl) (.cons rfl (.dat .bool) (.cons rfl (.dat .bool) .nil))))⟩
     ·have h60:=iteBT ey11 hb
      refine rl.run 11 rfl (rl.done ?_)
      cases h60
      exact ⟨_,rfl,(Gh.ren0 [0] (.cells rfl rfl (.keep .int (.keep .int (.keep .int (.keep .int (.keep .int (.keep .str (.keep .str (.keep .str .nil)))))))) .nil) rfl (.cons rfl (.ptr rfl) (.cons rfl (.dat .bool) (.cons rfl (.dat .bool) .nil))))⟩
    ·intro y hC
     subst hC
     refine RW.seq ?_
     obtain ⟨y12,ey12,h61⟩:=bindS h54
     refine RW.cutq (σ:=Bool) (fun y12=>[(1,.ptr 0 0),(3,.bool true),(4,.bool y11),(5,.bool y12)]) (fun y12=>[some ⟨[.j x0.Kind,.j x0.Valid,.j x0.Uid,.j x0.Next,.j x0.Flags,.str x0.User,.str x0.Name,.str x0.Text],0⟩]) (fun y=>y12 = y) (fun _ _ _ _ g h=>RW.gh g h) ?_ ?_
     ·refine RW.reg ?_
      refine rl.run 2 rfl ?_
      refine rl.gen rfl rfl fun b hb=>?_
      cases b
      ·have h62:=iteBF ey12 hb
       refine rl.run 3 rfl ?_
       refine rl.gen rfl rfl fun b hb=>?_
       cases b
       ·have h63:=iteBF h62 hb
        refine rl.run 2 rfl (rl.done ?_)
        cases h63
        exact ⟨_,rfl,(Gh.ren0 [0] (.cells rfl rfl (.keep .int (.keep .int (.keep .int (.keep .int (.keep .int (.keep .str (.keep .str (.keep .str .nil)))))))) .nil) rfl (.cons rfl (.ptr rfl) (.cons rfl (.dat .bool) (.cons rfl (.dat .bool) (.cons rfl (.dat .bool) .nil)))))⟩
       ·have h64:=iteBT h62 hb
        refine rl.run 2 rfl (rl.done ?_)
        cases h64
        exact ⟨_,rfl,(Gh.ren0 [0] (.cells rfl rfl (.keep .int (.keep .int (.keep .int (.keep .int (.keep .int (.keep .str (.keep .str (.keep .str .nil)))))))) .nil) rfl (.cons rfl (.ptr rfl) (.cons rfl (.dat .bool) (.cons rfl (.dat .bool) (.cons rfl (.dat .bool) .nil)))))⟩
      ·have h65:=iteBT ey12 hb
       refine rl.run 6 rfl (rl.done ?_)
       cases h65
       exact ⟨_,rfl,(Gh.ren0 [0] (.cells rfl rfl (.keep .int (.keep .int (.keep .int (.keep .int (.keep .int (.keep .str (.keep .str (.keep .str .nil)))))))) .nil) rfl (.cons rfl (.ptr rfl) (.cons rfl (.dat .bool) (.cons rfl (.dat .bool) (.cons rfl (.dat .bool) .nil)))))⟩
     ·intro y hC
      subst hC
      refine RW.seq (RW.seq ?_)
      obtain ⟨y13,ey13,h66⟩:=bindS h61
      refine RW.cutq (σ:=Bool) (fun y13=>[(1,.ptr 0 0),(4,.bool y11),(5,.bool y12),(77,.bool y13)]) (fun y13=>[some ⟨[.j x0.Kind,.j x0.Valid,.j x0.Uid,.j x0.Next,.j x0.Flags,.str x0.User,.str x0.Name,.str x0.Text],0⟩]) (fun y=>y13 = y) (fun _ _ _ _ g h=>RW.gh g h) ?_ ?_
      ·refine RW.reg ?_
       refine rl.run 4 rfl ?_
       obtain ⟨v14,e14,h67⟩:=bindS ey13
       refine rl.call rfl rfl rfl (CallW.val (r':=.bool v14) ok_spec_WordOk (law_spec_WordOk e14) (.cons .str .nil) .refl ?_)
       cases hb : v14
       ·have h68:=iteBF h67 hb
        refine rl.run 33 rfl (rl.done ?_)
        cases h68
        exact ⟨_,rfl,(Gh.ren0 [0] (.cells rfl rfl (.keep .int (.keep .int (.keep .int (.keep .int (.keep .int (.keep .str (.keep .str (.keep .str .nil)))))))) .nil) rfl (.cons rfl (.ptr rfl) (.cons rfl (.dat .bool) (.cons rfl (.dat .bool) (.cons rfl (.dat .bool) .nil)))))⟩
       ·have h69:=iteBT h67 hb
        refine rl.run 4 rfl ?_
        obtain ⟨v15,e15,h70⟩:=bindS h69
        refine rl.call rfl rfl rfl (CallW.val (r':=.bool v15) ok_spec_WordOk (law_spec_WordOk e15) (.cons .str .nil) .refl ?_)
        cases hb : v15
        ·have h71:=iteBF h70 hb
         refine rl.run 28 rfl (rl.done ?_)
         cases h71
         exact ⟨_,rfl,(Gh.ren0 [0] (.cells rfl rfl (.keep .int (.keep .int (.keep .int (.keep .int (.keep .int (.keep .str (.keep .str (.keep .str .nil)))))))) .nil) rfl (.cons rfl (.ptr rfl) (.cons rfl (.dat .bool) (.cons rfl (.dat .bool) (.cons rfl (.dat .bool) .nil)))))⟩
        ·have h72:=iteBT h70 hb
         refine rl.run 5 rfl ?_
         obtain ⟨v16,e16,h73⟩:=bindS h72
         refine rl.call rfl rfl rfl (CallW.val (r':=.bool v16) ok_spec_l01In (law_spec_l01In e16) (.cons .int (.cons .int (.cons .int .nil))) .refl ?_)
         cases hb : v16
         ·have h74:=iteBF h73 hb
          refine rl.run 22 rfl (rl.done ?_)
          cases h74
          exact ⟨_,rfl,(Gh.ren0 [0] (.cells rfl rfl (.keep .int (.keep .int (.keep .int (.keep .int (.keep .int (.keep .str (.keep .str (.keep .str .nil)))))))) .nil) rfl (.cons rfl (.ptr rfl) (.cons rfl (.dat .bool) (.cons rfl (.dat .bool) (.cons rfl (.dat .bool) .nil)))))⟩
         ·have h75:=iteBT h73 hb
          refine rl.run 22 rfl (rl.done ?_)
          cases h75
          exact ⟨_,rfl,(Gh.ren0 [0] (.cells rfl rfl (.keep .int (.keep .int (.keep .int (.keep .int (.keep .int (.keep .str (.keep .str (.keep .str .nil)))))))) .nil) rfl (.cons rfl (.ptr rfl) (.cons rfl (.dat .bool) (.cons rfl (.dat .bool) (.cons rfl (.dat .bool) .nil)))))⟩
      ·intro y hC
       subst hC
       cases hb : y13
       ·have h76:=iteBF h66 hb
        refine RW.cond_f rfl (RW.skip (RW.seq (RW.seq ?_)))
        obtain ⟨y17,ey17,h77⟩:=bindS h76
        refine RW.cutq (σ:=Bool) (fun y17=>[(1,.ptr 0 0),(5,.bool y12),(93,.bool y17)]) (fun y17=>[some ⟨[.j x0.Kind,.j x0.Valid,.j x0.Uid,.j x0.Next,.j x0.Flags,.str x0.User,.str x0.Name,.str x0.Text],0⟩]) (fun y=>y17 = y) (fun _ _ _ _ g h=>RW.gh g h) ?_ ?_
        ·refine RW.reg ?_
         refine rl.run 2 rfl ?_
         cases hb : y11
         ·have h78:=iteBF ey17 hb
          refine rl.run 11 rfl ?_
          refine rl.gen rfl rfl fun b hb=>?_
          cases b
          ·have h79:=iteBF h78 hb
           refine rl.run 2 rfl (rl.done ?_)
           cases h79
           exact ⟨_,rfl,(Gh.ren0 [0] (.cells rfl rfl (.keep .int (.keep .int (.keep .int (.keep .int (.keep .int (.keep .str (.keep .str (.keep .str .nil)))))))) .nil) rfl (.cons rfl (.ptr rfl) (.cons rfl (.dat .bool) (.cons rfl (.dat .bool) .nil))))⟩
          ·have h80:=iteBT h78 hb
           refine rl.run 2 rfl (rl.done ?_)
           cases h80
           exact ⟨_,rfl,(Gh.ren0 [0] (.cells rfl rfl (.keep .int (.keep .int (.keep .int (.keep .int (.keep .int (.keep .str (.keep .str (.keep .str .nil)))))))) .nil) rfl (.cons rfl (.ptr rfl) (.cons rfl (.dat .bool) (.cons rfl (.dat .bool) .nil))))⟩
         ·have h81:=iteBT ey17 hb
          refine rl.run 2 rfl ?_
          obtain ⟨v18,e18,h82⟩:=bindS h81
          refine rl.call rfl rfl rfl (CallW.val (r':=.bool v18) ok_spec_l01In (law_spec_l01In e18) (.cons .int (.cons .int (.cons .int .nil))) .refl ?_)
          cases hb : v18
          ·have h83:=iteBF h82 hb
           refine rl.run 11 rfl (rl.done ?_)
           cases h83
           exact ⟨_,rfl,(Gh.ren0 [0] (.cells rfl rfl (.keep .int (.keep .int (.keep .int (.keep .int (.keep .int (.keep .str (.keep .str (.keep .str .nil)))))))) .nil) rfl (.cons rfl (.ptr rfl) (.cons rfl (.dat .bool) (.cons rfl (.dat .bool) .nil))))⟩
          ·have h84:=iteBT h82 hb
           refine rl.run 11 rfl (rl.done ?_)
           cases h84
           exact ⟨_,rfl,(Gh.ren0 [0] (.cells rfl rfl (.keep .int (.keep .int (.keep .int (.keep .int (.keep .int (.keep .str (.keep .str (.keep .str .nil)))))))) .nil) rfl (.cons rfl (.ptr rfl) (.cons rfl (.dat .bool) (.cons rfl (.dat .bool) .nil))))⟩
        ·intro y hC
         subst hC
         cases hb : y17
         ·have h85:=iteBF h77 hb
          refine RW.cond_f rfl (RW.skip (RW.seq (RW.seq ?_)))
          obtain ⟨y19,ey19,h86⟩:=bindS h85
          refine RW.cutq (σ:=Bool) (fun y19=>[(1,.ptr 0 0),(109,.bool y19)]) (fun y19=>[some ⟨[.j x0.Kind,.j x0.Valid,.j x0.Uid,.j x0.Next,.j x0.Flags,.str x0.User,.str x0.Name,.str x0.Text],0⟩]) (fun y=>y19 = y) (fun _ _ _ _ g h=>RW.gh g h) ?_ ?_
          ·refine RW.reg ?_
           refine rl.run 2 rfl ?_
           cases hb : y12
           ·have h87:=iteBF ey19 hb
            refine rl.run 11 rfl ?_
            refine rl.gen rfl rfl fun b hb=>?_
            cases b
            ·have h88:=iteBF h87 hb
             refine rl.run 2 rfl (rl.done ?_)
             cases h88
             exact ⟨_,rfl,(Gh.ren0 [0] (.cells rfl rfl (.keep .int (.keep .int (.keep .int (.keep .int (.keep .int (.keep .str (.keep .str (.keep .str .nil)))))))) .nil) rfl (.cons rfl (.ptr rfl) (.cons rfl (.dat .bool) .nil)))⟩
            ·have h89:=iteBT h87 hb
             refine rl.run 2 rfl (rl.done ?_)
             cases h89
             exact ⟨_,rfl,(Gh.ren0 [0] (.cells rfl rfl (.keep .int (.keep .int (.keep .int (.keep .int (.keep .int (.keep .str (.keep .str (.keep .str .nil)))))))) .nil) rfl (.cons rfl (.ptr rfl) (.cons rfl (.dat .bool) .nil)))⟩
           ·have h90:=iteBT ey19 hb
            refine rl.run 2 rfl ?_
            obtain ⟨v20,e20,h91⟩:=bindS h90
            refine rl.call rfl rfl rfl (CallW.val (r':=.bool v20) ok_spec_l01In (law_spec_l01In e20) (.cons .int (.cons .int (.cons .int .nil))) .refl ?_)
            cases hb : v20
            ·have h92:=iteBF h91 hb
             refine rl.run 11 rfl (rl.done ?_)
             cases h92
             exact ⟨_,rfl,(Gh.ren0 [0] (.cells rfl rfl (.keep .int (.keep .int (.keep .int (.keep .int (.keep .int (.keep .str (.keep .str (.keep .str .nil)))))))) .nil) rfl (.cons rfl (.ptr rfl) (.cons rfl (.dat .bool) .nil)))⟩
            ·have h93:=iteBT h91 hb
             refine rl.run 11 rfl (rl.done ?_)
             cases h93
             exact ⟨_,rfl,(Gh.ren0 [0] (.cells rfl rfl (.keep .int (.keep .int (.keep .int (.keep .int (.keep .int (.keep .str (.keep .str (.keep .str .nil)))))))) .nil) rfl (.cons rfl (.ptr rfl) (.cons rfl (.dat .bool) .nil)))⟩
          ·intro y hC
           subst hC
           cases hb : y19
           ·have h94:=iteBF h86 hb
            refine RW.cond_f rfl (RW.skip (RW.seq (RW.sreg (rl.run 2 rfl ?_))))
            refine rl.gen rfl rfl fun b hb=>?_
            cases b
            ·have h95:=iteBF h94 hb
             refine rl.done (RW.cond_f rfl (RW.skip (RW.sreg (rl.run 4 rfl (rl.done (RW.ret ?_))))))
             cases h95
             exact RRet.mk rfl .bool (by first | decide | simp)
            ·have h96:=iteBT h94 hb
             refine rl.done (RW.cond_t rfl (RW.sreg (rl.run 5 rfl (rl.done (RW.ret ?_)))))
             cases h96
             exact RRet.mk rfl .bool (by first | decide | simp)
           ·have h97:=iteBT h86 hb
            refine RW.cond_t rfl (RW.sreg (rl.run 1 rfl (rl.done (RW.ret ?_))))
            cases h97
            exact RRet.mk rfl .bool (by first | decide | simp)
         ·have h98:=iteBT h77 hb
          refine RW.cond_t rfl (RW.sreg (rl.run 1 rfl (rl.done (RW.ret ?_))))
          cases h98
          exact RRet.mk rfl .bool (by first | decide | simp)
       ·have h99:=iteBT h66 hb
        refine RW.cond_t rfl (RW.sreg (rl.run 1 rfl (rl.done (RW.ret ?_))))
        cases h99
        exact RRet.mk rfl .bool (by first | decide | simp)
  ·have h100:=iteBT h1 hb
   refine RW.cond_t rfl (RW.sreg (rl.run 1 rfl (rl.done (RW.ret ?_))))
   cases h100
   exact RRet.mk rfl .bool (by first | decide | simp)
theorem law_spec_RecText {x0 : TRec} {r : (List UInt8) × Bool} (hF : F_spec_RecText x0 = some r) : PCalls Try.prog 160 [.agg (enc_TRec false x0)] (.tup [.str r.1,.bool r.2]):=by
 refine PCalls.of_r k_spec_RecText rfl ?_
 unfold F_spec_RecText at hF
 refine RW.sreg (rl.run 3 rfl (rl.done (RW.seq (RW.sreg (rl.run 1 rfl ?_)))))
 obtain ⟨v1,e1,h1⟩:=bindS hF
 refine rl.call rfl rfl rfl (CallW.val (r':=.bool v1) ok_spec_RecOk (law_spec_RecOk e1) (.cons (DFL.agg (.cons .int (.cons .int (.cons .int (.cons .int (.cons .int (.cons .str (.cons .str (.cons .str .nil))))))))) .nil) .refl ?_)
 cases hb : v1
 ·have h2:=iteBF h1 hb
  refine rl.run 1 rfl (rl.done (RW.cond_t rfl (RW.sreg (rl.run 2 rfl (rl.done (RW.ret ?_))))))
  cases h2
  exact RRet.mk rfl (OutT.tup (.cons .str (.cons .bool .nil))) (by first | decide | simp)
 ·have h3:=iteBT h1 hb
  refine rl.run 1 rfl (rl.done (RW.cond_f rfl (RW.skip (RW.sdrw (rdraw.op rfl rfl (rdraw.op rfl rfl (rdraw.op rfl rfl ?_)))))))
  refine rdraw.chn rfl rfl ?_
  refine rdraw.op rfl (x_cvb_sl (o:=true) (l:=[IntKind.u8.wrap x0.Kind]) rfl rfl) ?_
  refine rdraw.opA rfl rfl (.here (.rx rfl) .nil) ?_
  refine rdraw.opA rfl rfl (.here (.rx rfl) .nil) ?_
  obtain ⟨v2,e2,h4⟩:=bindS h3
  refine rdraw.callA rfl rfl rfl (CallW.val (r':=.str v2) ok_spec_l01Var (law_spec_l01Var e2) (.cons .int .nil) .refl ⟨rfl,(.here (.cl rfl rfl (CallW.val (r':=.str v2) ok_spec_l01Var (law_spec_l01Var e2) (.cons .int .nil) .refl ⟨rfl,rfl⟩)) .nil),?_⟩)
  obtain ⟨v3,e3,h5⟩:=bindS h4
  refine rdraw.op rfl (x_cat rfl rfl e3) ?_
  refine rdraw.opA rfl rfl (.here (.rx rfl) .nil) ?_
  refine rdraw.opA rfl rfl (.here (.rx rfl) .nil) ?_
  obtain ⟨v4,e4,h6⟩:=bindS h5
  refine rdraw.callA rfl rfl rfl (CallW.val (r':=.str v4) ok_spec_l01Var (law_spec_l01Var e4) (.cons .int .nil) .refl ⟨rfl,(.here (.cl rfl rfl (CallW.val (r':=.str v4) ok_spec_l01Var (law_spec_l01Var e4) (.cons .int .nil) .refl ⟨rfl,rfl⟩)) .nil),?_⟩)
  obtain ⟨v5,e5,h7⟩:=bindS h6
  refine rdraw.op rfl (x_cat rfl rfl e5) ?_
  refine rdraw.opA rfl rfl (.here (.rx rfl) .nil) ?_
  refine rdraw.opA rfl rfl (.here (.rx rfl) .nil) ?_
  obtain ⟨v6,e6,h8⟩:=bindS h7
  refine rdraw.callA rfl rfl rfl (CallW.val (r':=.str v6) ok_spec_l01Var (law_spec_l01Var e6) (.cons .int .nil) .refl ⟨rfl,(.here (.cl rfl rfl (CallW.val (r':=.str v6) ok_spec_l01Var (law_spec_l01Var e6) (.cons .int .nil) .refl ⟨rfl,rfl⟩)) .nil),?_⟩)
  obtain ⟨v7,e7,h9⟩:=bindS h8
  refine rdraw.op rfl (x_cat rfl rfl e7) ?_
  refine rdraw.opA rfl rfl (.here (.rx rfl) .nil) ?_
  refine rdraw.opA rfl rfl (.here (.rx rfl) .nil) ?_
  obtain ⟨v8,e8,h10⟩:=bindS h9
  refine rdraw.callA rfl rfl rfl (CallW.val (r':=.str v8) ok_spec_l01Var (law_spec_l01Var e8) (.cons .int .nil) .refl ⟨rfl,(.here (.cl rfl rfl (CallW.val (r':=.str v8) ok_spec_l01Var (law_spec_l01Var e8) (.cons .int .nil) .refl ⟨rfl,rfl⟩)) .nil),?_⟩)
  obtain ⟨v9,e9,h11⟩:=bindS h10
  refine rdraw.op rfl (x_cat rfl rfl e9) ?_
  refine rdraw.opA rfl rfl (.here (.rx rfl) .nil) ?_
  refine rdraw.opA rfl rfl (.here (.rx rfl) .nil) ?_
  obtain ⟨v10,e10,h12⟩:=bindS h11
  refine rdraw.callA rfl rfl rfl (CallW.val (r':=.str v10) ok_spec_l06Short (law_spec_l06Short e10) (.cons .str .nil) .refl ⟨rfl,(.here (.cl rfl rfl (CallW.val (r':=.str v10) ok_spec_l06Short (law_spec_l06Short e10) (.cons .str .nil) .refl ⟨rfl,rfl⟩)) .nil),?_⟩)
  obtain ⟨v11,e11,h13⟩:=bindS h12
  refine rdraw.op rfl (x_cat rfl rfl e11) ?_
  refine rdraw.opA rfl rfl (.here (.rx rfl) .nil) ?_
  refine rdraw.opA rfl rfl (.here (.rx rfl) .nil) ?_
  obtain ⟨v12,e12,h14⟩:=bindS h13
  refine rdraw.callA rfl rfl rfl (CallW.val (r':=.str v12) ok_spec_l06Short (law_spec_l06Short e12) (.cons .str .nil) .refl ⟨rfl,(.here (.cl rfl rfl (CallW.val (r':=.str v12) ok_spec_l06Short (law_spec_l06Short e12) (.cons .str .nil) .refl ⟨rfl,rfl⟩)) .nil),?_⟩)
  obtain ⟨v13,e13,h15⟩:=bindS h14
  refine rdraw.op rfl (x_cat rfl rfl e13) ?_
  refine rdraw.opA rfl rfl (.here (.rx rfl) .nil) ?_
  refine rdraw.opA rfl rfl (.here (.rx rfl) .nil) ?_
  obtain ⟨v14,e14,h16⟩:=bindS h15
  refine rdraw.callA rfl rfl rfl (CallW.val (r':=.str v14) ok_spec_l06Short (law_spec_l06Short e14) (.cons .str .nil) .refl ⟨rfl,(.here (.cl rfl rfl (CallW.val (r':=.str v14) ok_spec_l06Short (law_spec_l06Short e14) (.cons .str .nil) .refl ⟨rfl,rfl⟩)) .nil),?_⟩)
  obtain ⟨v15,e15,h17⟩:=bindS h16
  refine rdraw.op rfl (x_cat rfl rfl e15) ?_
  refine rdraw.op rfl rfl (rdraw.op rfl rfl (rdraw.done ?_))
  refine RW.kp [2,3] [(2,.str v15),(3,.bool true)] [some ⟨[.j x0.Kind,.j x0.Valid,.j x0.Uid,.j x0.Next,.j x0.Flags,.str x0.User,.str x0.Name,.str x0.Text],0⟩,some ⟨fl (encB true) [IntKind.u8.wrap x0.Kind],1⟩] rfl rfl ?_
  refine RW.ret ?_
  cases h17
  exact RRet.mk rfl (OutT.tup (.cons .str (.cons .bool .nil))) (by first | decide | simp)
theorem law_spec_ItemFrame {x0 : TItem} {x1 : Int} {r : TFrame × Bool} (hF : F_spec_ItemFrame x0 x1 = some r) : PCalls Try.prog 140 [.agg (enc_TItem false x0),.j x1] (.tup [.agg (enc_TFrame true r.1),.bool r.2]):=by
 refine PCalls.of_r k_spec_ItemFrame rfl ?_
 unfold F_spec_ItemFrame at hF
 refine RW.sreg (rl.run 3 rfl (rl.done (RW.sreg (rl.run 2 rfl ?_))))
 obtain ⟨v1,e1,h1⟩:=bindS hF
 refine rl.call rfl rfl rfl (CallW.val (r':=.tup [.str v1.1,.bool v1.2]) ok_spec_RecText (law_spec_RecText e1) (.cons (DFL.agg (.cons .int (.cons .int (.cons .int (.cons .int (.cons .int (.cons .str (.cons .str (.cons .str .nil))))))))) .nil) (FlL.tup (.cons .refl (.cons .refl .nil))) ?_)
 refine rl.run 5 rfl (rl.done (RW.sreg (rl.run 7 rfl (rl.done ?_))))
 refine RW.kp [4,7,8] [(4,.ptr 1 0),(7,.bool v1.2),(8,.ptr 2 0)] [some ⟨[.j x0.Seq,.j x0.Rec.Kind,.j x0.Rec.Valid,.j x0.Rec.Uid,.j x0.Rec.Next,.j x0.Rec.Flags,.str x0.Rec.User,.str x0.Rec.Name,.str x0.Rec.Text],0⟩,some ⟨[.j 0,.j 0,.str []],0⟩,some ⟨[.j x1,.j x0.Seq,.str v1.1],0⟩] rfl rfl ?_
 refine RW.seq (RW.seq ?_)
 obtain ⟨y2,ey2,h2⟩:=bindS h1
 refine RW.cutq (σ:=Bool) (fun y2=>[(4,.ptr 0 0),(8,.ptr 1 0),(26,.bool y2)]) (fun y2=>[some ⟨[.j 0,.j 0,.str []],0⟩,some ⟨[.j x1,.j x0.Seq,.str v1.1],0⟩]) (fun y=>y2 = y) (fun _ _ _ _ g h=>RW.gh g h) ?_ ?_
 ·refine RW.reg ?_
  refine rl.run 3 rfl ?_
  cases hb : (!v1.2)
  ·have h3:=iteBF ey2 hb
   refine rl.run 1 rfl ?_
   obtain ⟨v3,e3,h4⟩:=bindS h3
   refine rl.call rfl rfl rfl (CallW.val (r':=.bool v3) ok_spec_FrameOk (law_spec_FrameOk e3) (.cons (DFL.agg (.cons .int (.cons .int (.cons .str .nil)))) .nil) .refl ?_)
   cases hb : v3
   ·have h5:=iteBF h4 hb
    refine rl.run 2 rfl (rl.done ?_)
    cases h5
    exact ⟨_,rfl,(Gh.ren0 [1,2] (.cells rfl rfl (.keep .int (.keep .int (.keep .str .nil))) (.cells rfl rfl (.keep .int (.keep .int (.keep .str .nil))) .nil)) rfl (.cons rfl (.ptr rfl) (.cons rfl (.ptr rfl) (.cons rfl (.dat .bool) .nil))))⟩
   ·have h6:=iteBT h4 hb
    refine rl.run 2 rfl (rl.done ?_)
    cases h6
    exact ⟨_,rfl,(Gh.ren0 [1,2] (.cells rfl rfl (.keep .int (.keep .int (.keep .str .nil))) (.cells rfl rfl (.keep .int (.keep .int (.keep .str .nil))) .nil)) rfl (.cons rfl (.ptr rfl) (.cons rfl (.ptr rfl) (.cons rfl (.dat .bool) .nil))))⟩
  ·have h7:=iteBT ey2 hb
   refine rl.run 4 rfl (rl.done ?_)
   cases h7
   exact ⟨_,rfl,(Gh.ren0 [1,2] (.cells rfl rfl (.keep .int (.keep .int (.keep .str .nil))) (.cells rfl rfl (.keep .int (.keep .int (.keep .str .nil))) .nil)) rfl (.cons rfl (.ptr rfl) (.cons rfl (.ptr rfl) (.cons rfl (.dat .bool) .nil))))⟩
 ·intro y hC
  subst hC
  cases hb : y2
  ·have h8:=iteBF h2 hb
   refine RW.cond_f rfl (RW.skip (RW.sreg (rl.run 3 rfl (rl.done (RW.ret ?_)))))
   cases h8
   exact RRet.mk rfl (OutT.tup (.cons (OutL.agg (.cons .int rfl (.cons .int rfl (.cons .str rfl .nil)))) (.cons .bool .nil))) (by first | decide | simp)
  ·have h9:=iteBT h2 hb
   refine RW.cond_t rfl (RW.sreg (rl.run 3 rfl (rl.done (RW.ret ?_))))
   cases h9
   exact RRet.mk rfl (OutT.tup (.cons (OutL.agg (.cons .int rfl (.cons .int rfl (.cons .str rfl .nil)))) (.cons .bool .nil))) (by first | decide | simp)
set_option maxHeartbeats 2000000 in
theorem law_spec_l09Append_w2 {x0 : TLog} {x1 : TItem} {x2 : Int} {r : Bool × TLog} (hF : F_spec_l09Append_w2 x0 x1 x2 = some r) : ACalls Try.prog 0 97 [.ptr 0 0,.agg (enc_TItem false x1),.j x2] [some ⟨[.lst true 1 (fl (encS true) x0.Disk.Sectors) x0.Disk.Sectors.length,.lst true 2 (fl (enc_TWrite true) x0.Disk.Cache) x0.Disk.Cache.length,.j x0.Segs,.lst true 4 (fl (enc_TSeg true) x0.Used) x0.Used.length,.j x0.NextGen,.j x0.NextSeq,.j x0.Stamp,.j x0.NextValid],0⟩] (.bool r.1) [some ⟨[.lst true 1 (fl (encS true) r.2.Disk.Sectors) r.2.Disk.Sectors.length,.lst true 2 (fl (enc_TWrite true) r.2.Disk.Cache) r.2.Disk.Cache.length,.j r.2.Segs,.lst true 4 (fl (enc_TSeg true) r.2.Used) r.2.Used.length,.j r.2.NextGen,.j r.2.NextSeq,.j r.2.Stamp,.j r.2.NextValid],0⟩]:=by
 refine ACalls.of_s k_spec_l09Append rfl ?_
 unfold F_spec_l09Append_w2 at hF
 refine RW.gh (Gh.expose (b:=0) (j:=0) rfl rfl (by decide) (ekS.fown _)) ?_
 refine RW.gh (Gh.expose (b:=0) (j:=1) rfl rfl (by decide) (ek_TWrite.fown _)) ?_
 refine RW.gh (Gh.expose (b:=0) (j:=3) rfl rfl (by decide) (ek_TSeg.fown _)) ?_
 refine RW.sreg (rl.run 2 rfl (rl.done ?_))
 obtain ⟨v1,e1,h1⟩:=bindS hF
 refine RW.gh (Gh.blk (b:=3) rfl (raw_at ek_TSeg e1)) ?_
 refine RW.gh (Gh.expose_raw (b:=3) (j:=3) rfl rfl (by decide) (ek_TItem.fown _)) ?_
 refine RW.sdrw (rdraw.op rfl rfl (rdraw.op rfl rfl (rdraw.op rfl rfl (rdraw.op rfl rfl (rdraw.op rfl rfl (rdraw.op rfl rfl (rdraw.op rfl rfl (rdraw.op rfl rfl (rdraw.op rfl rfl (rdraw.op rfl rfl ?_))))))))))
 refine rdraw.op rfl (x_ia_sl rfl rfl rfl rfl e1) ?_
 refine rdraw.op rfl (x_ld_rawa (off':=0) (us:=[.j v1.No,.j v1.Gen,.j v1.End,.sl 5 0 v1.Items.length]) ek_TSeg rfl rfl e1 rfl rfl rfl) ?_
 refine rdraw.chnB rfl rfl (.here (.rx (x_ld_rawa (off':=0) (us:=[.j v1.No,.j v1.Gen,.j v1.End,.sl 5 0 v1.Items.length]) ek_TSeg rfl rfl e1 rfl rfl rfl)) (.here (.rx (x_ia_sl rfl rfl rfl rfl e1)) (.here (.rx rfl) (.here (.rx rfl) (.here (.rx rfl) (.here (.rx rfl) (.here (.rx rfl) (.here (.rx rfl) (.here (.rx rfl) (.here (.rx rfl) (.here (.rx rfl) (.here (.rx rfl) .nil)))))))))))) ?_
 refine rdraw.chn rfl rfl ?_
 refine rdraw.done ?_
 refine RW.kp [0,2,4,7] [(0,.ptr 0 0),(2,.j x2),(4,.ptr 4 0),(7,.ptr 6 0)] [some ⟨[.sl 1 0 x0.Disk.Sectors.length,.sl 2 0 x0.Disk.Cache.length,.j x0.Segs,.sl 3 0 x0.Used.length,.j x0.NextGen,.j x0.NextSeq,.j x0.Stamp,.j x0.NextValid],0⟩,some ⟨fl (encS true) x0.Disk.Sectors,1⟩,some ⟨fl (enc_TWrite true) x0.Disk.Cache,2⟩,some ⟨fl (enc_TSeg true) (x0.Used.take (w64 ((x0.Used.length : Int) - 1)).toNat) ++ ([.j v1.No,.j v1.Gen,.j v1.End,.sl 5 0 v1.Items.length] ++ fl (enc_TSeg true) (x0.Used.drop ((w64 ((x0.Used.length : Int) - 1)).toNat + 1))),4⟩,some ⟨[.j x1.Seq,.j x1.Rec.Kind,.j x1.Rec.Valid,.j x1.Rec.Uid,.j x1.Rec.Next,.j x1.Rec.Flags,.str x1.Rec.User,.str x1.Rec.Name,.str x1.Rec.Text],0⟩,some ⟨fl (enc_TItem true) v1.Items,9⟩,some ⟨[.j v1.No,.j v1.Gen,.j v1.End,.sl 5 0 v1.Items.length],0⟩] rfl rfl ?_
 refine RW.sreg (rl.run 3 rfl ?_)
 obtain ⟨v2,e2,h2⟩:=bindS h1
 refine rl.call rfl rfl rfl (CallW.val (r':=.tup [.agg (enc_TFrame false v2.1),.bool v2.2]) ok_spec_ItemFrame (law_spec_ItemFrame e2) (.cons (DFL.agg (.cons .int (.cons .int (.cons .int (.cons .int (.cons .int (.cons .int (.cons .str (.cons .str (.cons .str .nil)))))))))) (.cons .int .nil)) (FlL.tup (.cons .refl (.cons .refl .nil))) ?_)
 refine rl.run 6 rfl (rl.done (RW.sreg (rl.run 1 rfl ?_)))
 obtain ⟨v3,e3,h3⟩:=bindS h2
 refine rl.call rfl rfl rfl (CallW.val (r':=.tup [.str v3.1,.bool v3.2]) ok_spec_FrameText (law_spec_FrameText e3) (.cons (DFL.agg (.cons .int (.cons .int (.cons .str .nil)))) .nil) (FlL.tup (.cons .refl (.cons .refl .nil))) ?_)
 refine rl.run 5 rfl (rl.done ?_)
 refine RW.kp [0,2,4,7,8,9,10,11] [(0,.ptr 0 0),(2,.j x2),(4,.ptr 4 0),(7,.ptr 6 0),(8,.ptr 7 0),(9,.bool v2.2),(10,.str v3.1),(11,.bool v3.2)] [some ⟨[.sl 1 0 x0.Disk.Sectors.length,.sl 2 0 x0.Disk.Cache.length,.j x0.Segs,.sl 3 0 x0.Used.length,.j x0.NextGen,.j x0.NextSeq,.j x0.Stamp,.j x0.NextValid],0⟩,some ⟨fl (encS true) x0.Disk.Sectors,1⟩,some ⟨fl (enc_TWrite true) x0.Disk.Cache,2⟩,some ⟨fl (enc_TSeg true) (x0.Used.take (w64 ((x0.Used.length : Int) - 1)).toNat) ++ ([.j v1.No,.j v1.Gen,.j v1.End,.sl 5 0 v1.Items.length] ++ fl (enc_TSeg true) (x0.Used.drop ((w64 ((x0.Used.length : Int) - 1)).toNat + 1))),4⟩,some ⟨[.j x1.Seq,.j x1.Rec.Kind,.j x1.Rec.Valid,.j x1.Rec.Uid,.j x1.Rec.Next,.j x1.Rec.Flags,.str x1.Rec.User,.str x1.Rec.Name,.str x1.Rec.Text],0⟩,some ⟨fl (enc_TItem true) v1.Items,9⟩,some ⟨[.j v1.No,.j v1.Gen,.j v1.End,.sl 5 0 v1.Items.length],0⟩,some ⟨[.j v2.1.Gen,.j v2.1.Seq,.str v2.1.Body],0⟩] rfl rfl ?_
 refine RW.seq (RW.seq (RW.reg (rl.run 3 rfl ?_)))
 cases hb : (!v2.2)
 ·have h4:=iteBF h3 hb
  refine rl.run 4 rfl ?_
  cases hb : (!v3.2)
  ·have h5:=iteBF h4 hb
   refine rl.run 2 rfl ?_
   refine rl.gen rfl rfl fun b hb=>?_
   cases b
   ·have h6:=iteBF h5 hb
    refine rl.run 1 rfl (rl.done (RW.cond_f rfl (RW.skip (RW.seq (RW.sreg (rl.run 5 rfl ?_))))))
    refine rl.gen rfl rfl fun b hb=>?_
    cases b
    ·have h7:=iteBF h6 hb
     refine rl.done ?_
     refine RW.kp [0,2,4,7,8,10,54] [(0,.ptr 0 0),(2,.j x2),(4,.ptr 4 0),(7,.ptr 6 0),(8,.ptr 7 0),(10,.str v3.1),(54,.bool false)] [some ⟨[.sl 1 0 x0.Disk.Sectors.length,.sl 2 0 x0.Disk.Cache.length,.j x0.Segs,.sl 3 0 x0.Used.length,.j x0.NextGen,.j x0.NextSeq,.j x0.Stamp,.j x0.NextValid],0⟩,some ⟨fl (encS true) x0.Disk.Sectors,1⟩,some ⟨fl (enc_TWrite true) x0.Disk.Cache,2⟩,some ⟨fl (enc_TSeg true) (x0.Used.take (w64 ((x0.Used.length : Int) - 1)).toNat) ++ ([.j v1.No,.j v1.Gen,.j v1.End,.sl 5 0 v1.Items.length] ++ fl (enc_TSeg true) (x0.Used.drop ((w64 ((x0.Used.length : Int) - 1)).toNat + 1))),4⟩,some ⟨[.j x1.Seq,.j x1.Rec.Kind,.j x1.Rec.Valid,.j x1.Rec.Uid,.j x1.Rec.Next,.j x1.Rec.Flags,.str x1.Rec.User,.str x1.Rec.Name,.str x1.Rec.Text],0⟩,some ⟨fl (enc_TItem true) v1.Items,9⟩,some ⟨[.j v1.No,.j v1.Gen,.j v1.End,.sl 5 0 v1.Items.length],0⟩,some ⟨[.j v2.1.Gen,.j v2.1.Seq,.str v2.1.Body],0⟩] rfl rfl ?_
     refine RW.cond_f rfl (RW.skip (RW.sdrw (rdraw.op rfl rfl (rdraw.op rfl rfl (rdraw.op rfl rfl (rdraw.op rfl rfl (rdraw.op rfl rfl (rdraw.op rfl rfl (rdraw.op rfl rfl (rdraw.op rfl rfl (rdraw.op rfl rfl ?_)))))))))))
     obtain ⟨v4,e4,h8⟩:=bindS h7
     refine rdraw.call rfl rfl rfl (CallW.val (r':=.tup [.agg (enc_TDisk false v4.1),.bool v4.2]) ok_spec_SegWrite (law_spec_SegWrite e4) (.cons (DFL.agg (.cons (.slq ekS rfl rfl) (.cons (.slq ek_TWrite rfl rfl) .nil))) (.cons .int (.cons .int (.cons .str .nil)))) (FlL.tup (.cons (ek_TDisk.flag _).agg (.cons .refl .nil))) ⟨rfl,?_⟩)
     refine rdraw.op rfl rfl (rdraw.op rfl rfl (rdraw.op rfl rfl ?_))
     refine rdraw.chnB rfl rfl (.here (.rx rfl) (.here (.rx rfl) (.here (.rx rfl) (.here (.cl rfl rfl (CallW.val (r':=.tup [.agg (enc_TDisk false v4.1),.bool v4.2]) ok_spec_SegWrite (law_spec_SegWrite e4) (.cons (DFL.agg (.cons (.slq ekS rfl rfl) (.cons (.slq ek_TWrite rfl rfl) .nil))) (.cons .int (.cons .int (.cons .str .nil)))) (FlL.tup (.cons (ek_TDisk.flag _).agg (.cons .refl .nil))) ⟨rfl,rfl⟩)) (.here (.rx rfl) (.here (.rx rfl) (.here (.rx rfl) (.here (.rx rfl) (.here (.rx rfl) (.here (.rx rfl) (.here (.rx rfl) (.here (.rx rfl) (.here (.rx rfl) .nil))))))))))))) ?_
     refine rdraw.chnB rfl rfl (.here (.rx rfl) (.skip rfl (.skip rfl (.skip rfl (.skip rfl (.skip rfl (.skip rfl (.skip rfl (.skip rfl (.skip rfl (.skip rfl (.skip rfl (.skip rfl .nil))))))))))))) ?_
     refine rdraw.op rfl rfl (rdraw.done ?_)
     refine RW.kp [0,4,7,10,12,13] [(0,.ptr 0 0),(4,.ptr 4 0),(7,.ptr 6 0),(10,.str v3.1),(12,.ptr 8 0),(13,.bool v4.2)] [some ⟨[.sl 1 0 x0.Disk.Sectors.length,.sl 2 0 x0.Disk.Cache.length,.j x0.Segs,.sl 3 0 x0.Used.length,.j x0.NextGen,.j x0.NextSeq,.j x0.Stamp,.j x0.NextValid],0⟩,some ⟨fl (encS true) x0.Disk.Sectors,1⟩,some ⟨fl (enc_TWrite true) x0.Disk.Cache,2⟩,some ⟨fl (enc_TSeg true) (x0.Used.take (w64 ((x0.Used.length : Int) - 1)).toNat) ++ ([.j v1.No,.j v1.Gen,.j v1.End,.sl 5 0 v1.Items.length] ++ fl (enc_TSeg true) (x0.Used.drop ((w64 ((x0.Used.length : Int) - 1)).toNat + 1))),4⟩,some ⟨[.j x1.Seq,.j x1.Rec.Kind,.j x1.Rec.Valid,.j x1.Rec.Uid,.j x1.Rec.Next,.j x1.Rec.Flags,.str x1.Rec.User,.str x1.Rec.Name,.str x1.Rec.Text],0⟩,some ⟨fl (enc_TItem true) v1.Items,9⟩,some ⟨[.j v1.No,.j v1.Gen,.j v1.End,.sl 5 0 v1.Items.length],0⟩,some ⟨[.j v2.1.Gen,.j v2.1.Seq,.str v2.1.Body],0⟩,some ⟨[L_S v4.1.Sectors,L_TWrite v4.1.Cache],0⟩] rfl rfl ?_
     refine RW.seq (RW.sreg (rl.run 2 rfl (rl.done ?_)))
     cases hb : (!v4.2)
     ·have h9:=iteBF h8 hb
      refine RW.cond_f rfl (RW.skip (RW.sreg (rl.run 2 rfl ?_)))
      obtain ⟨v5,e5,h10⟩:=bindS h9
      refine rl.call rfl rfl rfl (CallW.own (r':=.agg [.sl 9 0 v5.Sectors.length,.sl 10 0 v5.Cache.length]) (H':=[some ⟨[.sl 1 0 x0.Disk.Sectors.length,.sl 2 0 x0.Disk.Cache.length,.j x0.Segs,.sl 3 0 x0.Used.length,.j x0.NextGen,.j x0.NextSeq,.j x0.Stamp,.j x0.NextValid],0⟩,some ⟨fl (encS true) x0.Disk.Sectors,1⟩,some ⟨fl (enc_TWrite true) x0.Disk.Cache,2⟩,some ⟨fl (enc_TSeg true) (x0.Used.take (w64 ((x0.Used.length : Int) - 1)).toNat) ++ ([.j v1.No,.j v1.Gen,.j v1.End,.sl 5 0 v1.Items.length] ++ fl (enc_TSeg true) (x0.Used.drop ((w64 ((x0.Used.length : Int) - 1)).toNat + 1))),4⟩,some ⟨[.j x1.Seq,.j x1.Rec.Kind,.j x1.Rec.Valid,.j x1.Rec.Uid,.j x1.Rec.Next,.j x1.Rec.Flags,.str x1.Rec.User,.str x1.Rec.Name,.str x1.Rec.Text],0⟩,some ⟨fl (enc_TItem true) v1.Items,9⟩,some ⟨[.j v1.No,.j v1.Gen,.j v1.End,.sl 5 0 v1.Items.length],0⟩,some ⟨[.j v2.1.Gen,.j v2.1.Seq,.str v2.1.Body],0⟩,some ⟨[L_S v4.1.Sectors,L_TWrite v4.1.Cache],0⟩,some ⟨fl (encS true) v5.Sectors,1⟩,some ⟨fl (enc_TWrite true) v5.Cache,2⟩]) ok_spec_FlushDisk (law_spec_FlushDisk e5) (.cons (DFL.agg (.cons (.lst ekS) (.cons (.lst ek_TWrite) .nil))) .nil) (ek_TDisk.own _) rfl ?_)
      refine rl.run 3 rfl (rl.done (RW.sreg (rl.run 7 rfl (rl.done ?_))))
      refine RW.kp [0,4,7] [(0,.ptr 0 0),(4,.ptr 4 0),(7,.ptr 6 0)] [some ⟨[.sl 9 0 v5.Sectors.length,.sl 10 0 v5.Cache.length,.j x0.Segs,.sl 3 0 x0.Used.length,.j x0.NextGen,.j x0.NextSeq,.j x0.Stamp,.j x0.NextValid],0⟩,some ⟨fl (encS true) x0.Disk.Sectors,1⟩,some ⟨fl (enc_TWrite true) x0.Disk.Cache,2⟩,some ⟨fl (enc_TSeg true) (x0.Used.take (w64 ((x0.Used.length : Int) - 1)).toNat) ++ ([.j v1.No,.j v1.Gen,.j v1.End,.sl 5 0 v1.Items.length] ++ fl (enc_TSeg true) (x0.Used.drop ((w64 ((x0.Used.length : Int) - 1)).toNat + 1))),4⟩,some ⟨[.j x1.Seq,.j x1.Rec.Kind,.j x1.Rec.Valid,.j x1.Rec.Uid,.j x1.Rec.Next,.j x1.Rec.Flags,.str x1.Rec.User,.str x1.Rec.Name,.str x1.Rec.Text],0⟩,some ⟨fl (enc_TItem true) v1.Items,9⟩,some ⟨[.j v1.No,.j v1.Gen,.j (w64 (v1.End + (v3.1.length : Int))),.sl 5 0 v1.Items.length],0⟩,some ⟨[.j v2.1.Gen,.j v2.1.Seq,.str v2.1.Body],0⟩,some ⟨[L_S v4.1.Sectors,L_TWrite v4.1.Cache],0⟩,some ⟨fl (encS true) v5.Sectors,1⟩,some ⟨fl (enc_TWrite true) v5.Cache,2⟩] rfl rfl ?_
      refine RW.sdrw (rdraw.op rfl rfl (rdraw.op rfl rfl (rdraw.op rfl rfl ?_)))
      obtain ⟨v6,e6,h11⟩:=bindS h10
      refine rdraw.chn rfl (x_app rfl rfl (rapp_nil (m:=v1.Items) (o:=true) ek_TItem (acont_slq (m:=v1.Items) (o:=true) fk_TItem rfl rfl) rfl (fk_TItem.fst _ _) e6)) ?_
      refine rdraw.opA rfl rfl (.here (.rx rfl) .nil) ?_
      refine rdraw.litA (u:=L_TItem ([x1] : List TItem)) rfl rfl (Lit.mk rfl rfl) (.here (.lit rfl (Lit.mk rfl rfl)) .nil) ?_
      obtain ⟨v7,e7,h12⟩:=bindS h11
      refine rdraw.chn rfl (x_app rfl rfl (rapp_sl (l:=v6) (m:=([x1] : List TItem)) (o:=true) ek_TItem rfl rfl acont_lst rfl (fk_TItem.fst _ _) e7)) ?_
      refine rdraw.op rfl rfl ?_
      refine rdraw.chn rfl rfl ?_
      refine rdraw.done ?_
      refine RW.gh (Gh.absorb_rawq (b:=3) (j:=3) (m:=5) rfl rfl rfl (by decide) (by decide) rfl (ek_TItem.flen true _) (ek_TItem.fown _)) ?_
      refine RW.gh (Gh.blk (b:=3) rfl (raw_at ek_TSeg e1).symm) ?_
      refine RW.sdrw (rdraw.op rfl rfl (rdraw.op rfl rfl (rdraw.op rfl rfl (rdraw.op rfl rfl (rdraw.op rfl rfl (rdraw.op rfl rfl (rdraw.op rfl rfl (rdraw.op rfl rfl (rdraw.op rfl rfl (rdraw.op rfl rfl (rdraw.op rfl rfl ?_)))))))))))
      obtain ⟨v8,e8,h13⟩:=bindS h12
      refine rdraw.op rfl (x_ia_sl rfl rfl rfl rfl e8) ?_
      obtain ⟨v9,e9,h14⟩:=bindS h13
      refine rdraw.chn rfl (x_st_raw (off':=0) ek_TSeg e8 rfl rfl rfl rfl rfl rfl rfl rfl) ?_
      refine rdraw.done ?_
      refine RW.gh (Gh.absorb_rawq (b:=3) (j:=3) (m:=12) rfl rfl rfl (by decide) (by decide) rfl (ek_TItem.flen true _) (ek_TItem.fown _)) ?_
      refine RW.gh (Gh.blk (b:=3) rfl (raw_set ek_TSeg e8 e9 rfl)) ?_
      refine RW.kp [0,4] [(0,.ptr 0 0),(4,.ptr 4 0)] [some ⟨[.sl 9 0 v5.Sectors.length,.sl 10 0 v5.Cache.length,.j x0.Segs,.sl 3 0 x0.Used.length,.j x0.NextGen,.j x0.NextSeq,.j x0.Stamp,.j x0.NextValid],0⟩,some ⟨fl (encS true) x0.Disk.Sectors,1⟩,some ⟨fl (enc_TWrite true) x0.Disk.Cache,2⟩,some ⟨fl (enc_TSeg true) v9,4⟩,some ⟨[.j x1.Seq,.j x1.Rec.Kind,.j x1.Rec.Valid,.j x1.Rec.Uid,.j x1.Rec.Next,.j x1.Rec.Flags,.str x1.Rec.User,.str x1.Rec.Name,.str x1.Rec.Text],0⟩,none,some ⟨[.j v1.No,.j v1.Gen,.j (w64 (v1.End + (v3.1.length : Int))),.sl 12 0 v7.length],0⟩,some ⟨[.j v2.1.Gen,.j v2.1.Seq,.str v2.1.Body],0⟩,some ⟨[L_S v4.1.Sectors,L_TWrite v4.1.Cache],0⟩,some ⟨fl (encS true) v5.Sectors,1⟩,some ⟨fl (enc_TWrite true) v5.Cache,2⟩,none,none] rfl rfl ?_
      refine RW.seq (RW.sdrw (rdraw.op rfl rfl (rdraw.op rfl rfl (rdraw.op rfl rfl (rdraw.op rfl rfl (rdraw.op rfl rfl (rdraw.op rfl rfl ?_)))))))
      refine rdraw.gen rfl rfl fun b hb=>?_
      cases b
      ·have h15:=iteBF h14 hb
       refine rdraw.done (RW.cond_f rfl (RW.skip (RW.seq (RW.sdrw (rdraw.op rfl rfl (rdraw.op rfl rfl (rdraw.op rfl rfl (rdraw.op rfl rfl (rdraw.op rfl rfl (rdraw.op rfl rfl (rdraw.op rfl rfl ?_)))))))))))
       refine rdraw.gen rfl rfl fun b hb=>?_
       cases b
       ·have h16:=iteBF h15 hb
        refine rdraw.done ?_
        refine RW.kp [0,4,155] [(0,.ptr 0 0),(4,.ptr 4 0),(155,.bool false)] [some ⟨[.sl 9 0 v5.Sectors.length,.sl 10 0 v5.Cache.length,.j x0.Segs,.sl 3 0 x0.Used.length,.j x0.NextGen,.j x0.NextSeq,.j x0.Stamp,.j x0.NextValid],0⟩,some ⟨fl (encS true) x0.Disk.Sectors,1⟩,some ⟨fl (enc_TWrite true) x0.Disk.Cache,2⟩,some ⟨fl (enc_TSeg true) v9,4⟩,some ⟨[.j x1.Seq,.j x1.Rec.Kind,.j x1.Rec.Valid,.j x1.Rec.Uid,.j x1.Rec.Next,.j x1.Rec.Flags,.str x1.Rec.User,.str x1.Rec.Name,.str x1.Rec.Text],0⟩,none,some ⟨[.j v1.No,.j v1.Gen,.j (w64 (v1.End + (v3.1.length : Int))),.sl 12 0 v7.length],0⟩,some ⟨[.j v2.1.Gen,.j v2.1.Seq,.str v2.1.Body],0⟩,some ⟨[L_S v4.1.Sectors,L_TWrite v4.1.Cache],0⟩,some ⟨fl (encS true) v5.Sectors,1⟩,some ⟨fl (enc_TWrite true) v5.Cache,2⟩,none,none] rfl rfl ?_
        refine RW.cond_f rfl (RW.skip (RW.sreg (rl.run 1 rfl (rl.done (RW.ret ?_)))))
        cases h16
        exact RRetS.mk rfl .bool (Gh.trans (Gh.absorbq (b:=0) (j:=0) (m:=9) rfl rfl rfl (by decide) (by decide) rfl (ekS.flen true _) (ekS.fown _)) (Gh.trans (Gh.absorbq (b:=0) (j:=1) (m:=10) rfl rfl rfl (by decide) (by decide) rfl (ek_TWrite.flen true _) (ek_TWrite.fown _)) (Gh.trans (Gh.absorbq (b:=0) (j:=3) (m:=3) rfl rfl rfl (by decide) (by decide) (set'_len e9) (ek_TSeg.flen true _) (ek_TSeg.fown _)) (Gh.renN [0] (.cells rfl rfl (.keep (ekS.rlst) (.keep (ek_TWrite.rlst) (.keep .int (.keep (ek_TSeg.rlst) (.keep .int (.keep .int (.keep .int (.keep .int .nil)))))))) .nil) rfl rfl rfl .nil))))
       ·have h17:=iteBT h15 hb
        refine rdraw.done ?_
        refine RW.kp [0,4,155] [(0,.ptr 0 0),(4,.ptr 4 0),(155,.bool true)] [some ⟨[.sl 9 0 v5.Sectors.length,.sl 10 0 v5.Cache.length,.j x0.Segs,.sl 3 0 x0.Used.length,.j x0.NextGen,.j x0.NextSeq,.j x0.Stamp,.j x0.NextValid],0⟩,some ⟨fl (encS true) x0.Disk.Sectors,1⟩,some ⟨fl (enc_TWrite true) x0.Disk.Cache,2⟩,some ⟨fl (enc_TSeg true) v9,4⟩,some ⟨[.j x1.Seq,.j x1.Rec.Kind,.j x1.Rec.Valid,.j x1.Rec.Uid,.j x1.Rec.Next,.j x1.Rec.Flags,.str x1.Rec.User,.str x1.Rec.Name,.str x1.Rec.Text],0⟩,none,some ⟨[.j v1.No,.j v1.Gen,.j (w64 (v1.End + (v3.1.length : Int))),.sl 12 0 v7.length],0⟩,some ⟨[.j v2.1.Gen,.j v2.1.Seq,.str v2.1.Body],0⟩,some ⟨[L_S v4.1.Sectors,L_TWrite v4.1.Cache],0⟩,some ⟨fl (encS true) v5.Sectors,1⟩,some ⟨fl (enc_TWrite true) v5.Cache,2⟩,none,none] rfl rfl ?_
        refine RW.cond_t rfl (RW.reg (rl.run 8 rfl (rl.done (RW.sreg (rl.run 1 rfl (rl.done (RW.ret ?_)))))))
        cases h17
        exact RRetS.mk rfl .bool (Gh.trans (Gh.absorbq (b:=0) (j:=0) (m:=9) rfl rfl rfl (by decide) (by decide) rfl (ekS.flen true _) (ekS.fown _)) (Gh.trans (Gh.absorbq (b:=0) (j:=1) (m:=10) rfl rfl rfl (by decide) (by decide) rfl (ek_TWrite.flen true _) (ek_TWrite.fown _)) (Gh.trans (Gh.absorbq (b:=0) (j:=3) (m:=3) rfl rfl rfl (by decide) (by decide) (set'_len e9) (ek_TSeg.flen true _) (ek_TSeg.fown _)) (Gh.renN [0] (.cells rfl rfl (.keep (ekS.rlst) (.keep (ek_TWrite.rlst) (.keep .int (.keep (ek_TSeg.rlst) (.keep .int (.keep .int (.keep .int (.keep .int .nil)))))))) .nil) rfl rfl rfl .nil))))
      ·have h18:=iteBT h14 hb
       refine rdraw.done (RW.cond_t rfl (RW.reg (rl.run 7 rfl (rl.done (RW.seq (RW.sdrw (rdraw.op rfl rfl (rdraw.op rfl rfl (rdraw.op rfl rfl (rdraw.op rfl rfl (rdraw.op rfl rfl ?_)))))))))))
       refine rdraw.op rfl rfl (rdraw.op rfl rfl ?_)
       refine rdraw.gen rfl rfl fun b hb=>?_
       cases b
       ·have h19:=iteBF h18 hb
        refine rdraw.done ?_
        refine RW.kp [0,4,155] [(0,.ptr 0 0),(4,.ptr 4 0),(155,.bool false)] [some ⟨[.sl 9 0 v5.Sectors.length,.sl 10 0 v5.Cache.length,.j x0.Segs,.sl 3 0 x0.Used.length,.j x0.NextGen,.j (w64 (x1.Seq + 1)),.j x0.Stamp,.j x0.NextValid],0⟩,some ⟨fl (encS true) x0.Disk.Sectors,1⟩,some ⟨fl (enc_TWrite true) x0.Disk.Cache,2⟩,some ⟨fl (enc_TSeg true) v9,4⟩,some ⟨[.j x1.Seq,.j x1.Rec.Kind,.j x1.Rec.Valid,.j x1.Rec.Uid,.j x1.Rec.Next,.j x1.Rec.Flags,.str x1.Rec.User,.str x1.Rec.Name,.str x1.Rec.Text],0⟩,none,some ⟨[.j v1.No,.j v1.Gen,.j (w64 (v1.End + (v3.1.length : Int))),.sl 12 0 v7.length],0⟩,some ⟨[.j v2.1.Gen,.j v2.1.Seq,.str v2.1.Body],0⟩,some ⟨[L_S v4.1.Sectors,L_TWrite v4.1.Cache],0⟩,some ⟨fl (encS true) v5.Sectors,1⟩,some ⟨fl (enc_TWrite true) v5.Cache,2⟩,none,none] rfl rfl ?_
        refine RW.cond_f rfl (RW.skip (RW.sreg (rl.run 1 rfl (rl.done (RW.ret ?_)))))
        cases h19
        exact RRetS.mk rfl .bool (Gh.trans (Gh.absorbq (b:=0) (j:=0) (m:=9) rfl rfl rfl (by decide) (by decide) rfl (ekS.flen true _) (ekS.fown _)) (Gh.trans (Gh.absorbq (b:=0) (j:=1) (m:=10) rfl rfl rfl (by decide) (by decide) rfl (ek_TWrite.flen true _) (ek_TWrite.fown _)) (Gh.trans (Gh.absorbq (b:=0) (j:=3) (m:=3) rfl rfl rfl (by decide) (by decide) (set'_len e9) (ek_TSeg.flen true _) (ek_TSeg.fown _)) (Gh.renN [0] (.cells rfl rfl (.keep (ekS.rlst) (.keep (ek_TWrite.rlst) (.keep .int (.keep (ek_TSeg.rlst) (.keep .int (.keep .int (.keep .int (.keep .int .nil)))))))) .nil) rfl rfl rfl .nil))))
       ·have h20:=iteBT h18 hb
        refine rdraw.done ?_
        refine RW.kp [0,4,155] [(0,.ptr 0 0),(4,.ptr 4 0),(155,.bool true)] [some ⟨[.sl 9 0 v5.Sectors.length,.sl 10 0 v5.Cache.length,.j x0.Segs,.sl 3 0 x0.Used.length,.j x0.NextGen,.j (w64 (x1.Seq + 1)),.j x0.Stamp,.j x0.NextValid],0⟩,some ⟨fl (encS true) x0.Disk.Sectors,1⟩,some ⟨fl (enc_TWrite true) x0.Disk.Cache,2⟩,some ⟨fl (enc_TSeg true) v9,4⟩,some ⟨[.j x1.Seq,.j x1.Rec.Kind,.j x1.Rec.Valid,.j x1.Rec.Uid,.j x1.Rec.Next,.j x1.Rec.Flags,.str x1.Rec.User,.str x1.Rec.Name,.str x1.Rec.Text],0⟩,none,some ⟨[.j v1.No,.j v1.Gen,.j (w64 (v1.End + (v3.1.length : Int))),.sl 12 0 v7.length],0⟩,some ⟨[.j v2.1.Gen,.j v2.1.Seq,.str v2.1.Body],0⟩,some ⟨[L_S v4.1.Sectors,L_TWrite v4.1.Cache],0⟩,some ⟨fl (encS true) v5.Sectors,1⟩,some ⟨fl (enc_TWrite true) v5.Cache,2⟩,none,none] rfl rfl ?_
        refine RW.cond_t rfl (RW.reg (rl.run 8 rfl (rl.done (RW.sreg (rl.run 1 rfl (rl.done (RW.ret ?_)))))))
        cases h20
        exact RRetS.mk rfl .bool (Gh.trans (Gh.absorbq (b:=0) (j:=0) (m:=9) rfl rfl rfl (by decide) (by decide) rfl (ekS.flen true _) (ekS.fown _)) (Gh.trans (Gh.absorbq (b:=0) (j:=1) (m:=10) rfl rfl rfl (by decide) (by decide) rfl (ek_TWrite.flen true _) (ek_TWrite.fown _)) (Gh.trans (Gh.absorbq (b:=0) (j:=3) (m:=3) rfl rfl rfl (by decide) (by decide) (set'_len e9) (ek_TSeg.flen true _) (ek_TSeg.fown _)) (Gh.renN [0] (.cells rfl rfl (.keep (ekS.rlst) (.keep (ek_TWrite.rlst) (.keep .int (.keep (ek_TSeg.rlst) (.keep .int (.keep .int (.keep .int (.keep .int .nil)))))))) .nil) rfl rfl rfl .nil))))
     ·have h21:=iteBT h8 hb
      refine RW.cond_t rfl (RW.sreg (rl.run 1 rfl (rl.done ?_)))
      refine RW.gh (Gh.absorb_rawq (b:=3) (j:=3) (m:=5) rfl rfl rfl (by decide) (by decide) rfl (ek_TItem.flen true _) (ek_TItem.fown _)) ?_
      refine RW.gh (Gh.blk (b:=3) rfl (raw_at ek_TSeg e1).symm) ?_
      refine RW.ret ?_
      cases h21
      exact RRetS.mk rfl .bool (Gh.trans (Gh.absorbq (b:=0) (j:=0) (m:=1) rfl rfl rfl (by decide) (by decide) rfl (ekS.flen true _) (ekS.fown _)) (Gh.trans (Gh.absorbq (b:=0) (j:=1) (m:=2) rfl rfl rfl (by decide) (by decide) rfl (ek_TWrite.flen true _) (ek_TWrite.fown _)) (Gh.trans (Gh.absorbq (b:=0) (j:=3) (m:=3) rfl rfl rfl (by decide) (by decide) rfl (ek_TSeg.flen true _) (ek_TSeg.fown _)) (Gh.renN [0] (.cells rfl rfl (.keep (ekS.rlst) (.keep (ek_TWrite.rlst) (.keep .int (.keep (ek_TSeg.rlst) (.keep .int (.keep .int (.keep .int (.keep .int .nil)))))))) .nil) rfl rfl rfl .nil))))
    ·have h22:=iteBT h6 hb
     refine rl.done ?_
     refine RW.kp [0,2,4,7,8,10,54] [(0,.ptr 0 0),(2,.j x2),(4,.ptr 4 0),(7,.ptr 6 0),(8,.ptr 7 0),(10,.str v3.1),(54,.bool true)] [some ⟨[.sl 1 0 x0.Disk.Sectors.length,.sl 2 0 x0.Disk.Cache.length,.j x0.Segs,.sl 3 0 x0.Used.length,.j x0.NextGen,.j x0.NextSeq,.j x0.Stamp,.j x0.NextValid],0⟩,some ⟨fl (encS true) x0.Disk.Sectors,1⟩,some ⟨fl (enc_TWrite true) x0.Disk.Cache,2⟩,some ⟨fl (enc_TSeg true) (x0.Used.take (w64 ((x0.Used.length : Int) - 1)).toNat) ++ ([.j v1.No,.j v1.Gen,.j v1.End,.sl 5 0 v1.Items.length] ++ fl (enc_TSeg true) (x0.Used.drop ((w64 ((x0.Used.length : Int) - 1)).toNat + 1))),4⟩,some ⟨[.j x1.Seq,.j x1.Rec.Kind,.j x1.Rec.Valid,.j x1.Rec.Uid,.j x1.Rec.Next,.j x1.Rec.Flags,.str x1.Rec.User,.str x1.Rec.Name,.str x1.Rec.Text],0⟩,some ⟨fl (enc_TItem true) v1.Items,9⟩,some ⟨[.j v1.No,.j v1.Gen,.j v1.End,.sl 5 0 v1.Items.length],0⟩,some ⟨[.j v2.1.Gen,.j v2.1.Seq,.str v2.1.Body],0⟩] rfl rfl ?_
     refine RW.cond_t rfl (RW.seq ?_)
     refine RW.gh (Gh.absorb_rawq (b:=3) (j:=3) (m:=5) rfl rfl rfl (by decide) (by decide) rfl (ek_TItem.flen true _) (ek_TItem.fown _)) ?_
     refine RW.gh (Gh.blk (b:=3) rfl (raw_at ek_TSeg e1).symm) ?_
     refine RW.gh (Gh.absorbq (b:=0) (j:=0) (m:=1) rfl rfl rfl (by decide) (by decide) rfl (ekS.flen true _) (ekS.fown _)) ?_
     refine RW.gh (Gh.absorbq (b:=0) (j:=1) (m:=2) rfl rfl rfl (by decide) (by decide) rfl (ek_TWrite.flen true _) (ek_TWrite.fown _)) ?_
     refine RW.gh (Gh.absorbq (b:=0) (j:=3) (m:=3) rfl rfl rfl (by decide) (by decide) rfl (ek_TSeg.flen true _) (ek_TSeg.fown _)) ?_
     refine RW.sreg (rl.run 2 rfl ?_)
     obtain ⟨v10,e10,h23⟩:=bindS h22
     refine rl.call rfl rfl rfl (CallW.embW (r0:=.bool v10.1) (H':=[some ⟨[.lst true 1 (fl (encS true) v10.2.Disk.Sectors) v10.2.Disk.Sectors.length,.lst true 2 (fl (enc_TWrite true) v10.2.Disk.Cache) v10.2.Disk.Cache.length,.j v10.2.Segs,.lst true 4 (fl (enc_TSeg true) v10.2.Used) v10.2.Used.length,.j v10.2.NextGen,.j v10.2.NextSeq,.j v10.2.Stamp,.j v10.2.NextValid],0⟩,none,none,none,some ⟨[.j x1.Seq,.j x1.Rec.Kind,.j x1.Rec.Valid,.j x1.Rec.Uid,.j x1.Rec.Next,.j x1.Rec.Flags,.str x1.Rec.User,.str x1.Rec.Name,.str x1.Rec.Text],0⟩,none,some ⟨[.j v1.No,.j v1.Gen,.j v1.End,.sl 5 0 v1.Items.length],0⟩,some ⟨[.j v2.1.Gen,.j v2.1.Seq,.str v2.1.Body],0⟩]) [⟨[.lst true 1 (fl (encS true) x0.Disk.Sectors) x0.Disk.Sectors.length,.lst true 2 (fl (enc_TWrite true) x0.Disk.Cache) x0.Disk.Cache.length,.j x0.Segs,.lst true 4 (fl (enc_TSeg true) x0.Used) x0.Used.length,.j x0.NextGen,.j x0.NextSeq,.j x0.Stamp,.j x0.NextValid],0⟩] [⟨[.lst true 1 (fl (encS true) v10.2.Disk.Sectors) v10.2.Disk.Sectors.length,.lst true 2 (fl (enc_TWrite true) v10.2.Disk.Cache) v10.2.Disk.Cache.length,.j v10.2.Segs,.lst true 4 (fl (enc_TSeg true) v10.2.Used) v10.2.Used.length,.j v10.2.NextGen,.j v10.2.NextSeq,.j v10.2.Stamp,.j v10.2.NextValid],0⟩] [0] ok_spec_l09Open (law_spec_l09Open_w3 e10) (.cons rfl (fac (ekS.rlst) (fac (ek_TWrite.rlst) (fac .int (fac (ek_TSeg.rlst) (fac .int (fac .int (fac .int (fac .int fan)))))))) (fac (.lst (ekS.fown _)) (fac (.lst (ek_TWrite.fown _)) (fac .int (fac (.lst (ek_TSeg.fown _)) (fac .int (fac .int (fac .int (fac .int fan)))))))) .nil) rfl (.cons (.ptr rfl) (.cons (.dat .int) .nil)) .bool rfl rfl ?_)
     cases hb : v10.1
     ·have h24:=iteBF h23 hb
      refine rl.run 1 rfl (rl.done ?_)
      refine RW.gh (Gh.expose (b:=0) (j:=0) rfl rfl (by decide) (ekS.fown _)) ?_
      refine RW.gh (Gh.expose (b:=0) (j:=1) rfl rfl (by decide) (ek_TWrite.fown _)) ?_
      refine RW.gh (Gh.expose (b:=0) (j:=3) rfl rfl (by decide) (ek_TSeg.fown _)) ?_
      refine RW.kp [0,4,7,8,58] [(0,.ptr 0 0),(4,.ptr 4 0),(7,.ptr 6 0),(8,.ptr 7 0),(58,.bool true)] [some ⟨[.sl 8 0 v10.2.Disk.Sectors.length,.sl 9 0 v10.2.Disk.Cache.length,.j v10.2.Segs,.sl 10 0 v10.2.Used.length,.j v10.2.NextGen,.j v10.2.NextSeq,.j v10.2.Stamp,.j v10.2.NextValid],0⟩,none,none,none,some ⟨[.j x1.Seq,.j x1.Rec.Kind,.j x1.Rec.Valid,.j x1.Rec.Uid,.j x1.Rec.Next,.j x1.Rec.Flags,.str x1.Rec.User,.str x1.Rec.Name,.str x1.Rec.Text],0⟩,none,some ⟨[.j v1.No,.j v1.Gen,.j v1.End,.sl 5 0 v1.Items.length],0⟩,some ⟨[.j v2.1.Gen,.j v2.1.Seq,.str v2.1.Body],0⟩,some ⟨fl (encS true) v10.2.Disk.Sectors,1⟩,some ⟨fl (enc_TWrite true) v10.2.Disk.Cache,2⟩,some ⟨fl (enc_TSeg true) v10.2.Used,4⟩] rfl rfl ?_
      refine RW.cond_t rfl (RW.sreg (rl.run 1 rfl (rl.done (RW.ret ?_))))
      cases h24
      exact RRetS.mk rfl .bool (Gh.trans (Gh.absorbq (b:=0) (j:=0) (m:=8) rfl rfl rfl (by decide) (by decide) rfl (ekS.flen true _) (ekS.fown _)) (Gh.trans (Gh.absorbq (b:=0) (j:=1) (m:=9) rfl rfl rfl (by decide) (by decide) rfl (ek_TWrite.flen true _) (ek_TWrite.fown _)) (Gh.trans (Gh.absorbq (b:=0) (j:=3) (m:=10) rfl rfl rfl (by decide) (by decide) rfl (ek_TSeg.flen true _) (ek_TSeg.fown _)) (Gh.renN [0] (.cells rfl rfl (.keep (ekS.rlst) (.keep (ek_TWrite.rlst) (.keep .int (.keep (ek_TSeg.rlst) (.keep .int (.keep .int (.keep .int (.keep .int .nil)))))))) .nil) rfl rfl rfl .nil))))
     ·have h25:=iteBT h23 hb
      refine rl.run 1 rfl (rl.done ?_)
      refine RW.gh (Gh.expose (b:=0) (j:=0) rfl rfl (by decide) (ekS.fown _)) ?_
      refine RW.gh (Gh.expose (b:=0) (j:=1) rfl rfl (by decide) (ek_TWrite.fown _)) ?_
      refine RW.gh (Gh.expose (b:=0) (j:=3) rfl rfl (by decide) (ek_TSeg.fown _)) ?_
      refine RW.kp [0,4,7,8,58] [(0,.ptr 0 0),(4,.ptr 4 0),(7,.ptr 6 0),(8,.ptr 7 0),(58,.bool false)] [some ⟨[.sl 8 0 v10.2.Disk.Sectors.length,.sl 9 0 v10.2.Disk.Cache.length,.j v10.2.Segs,.sl 10 0 v10.2.Used.length,.j v10.2.NextGen,.j v10.2.NextSeq,.j v10.2.Stamp,.j v10.2.NextValid],0⟩,none,none,none,some ⟨[.j x1.Seq,.j x1.Rec.Kind,.j x1.Rec.Valid,.j x1.Rec.Uid,.j x1.Rec.Next,.j x1.Rec.Flags,.str x1.Rec.User,.str x1.Rec.Name,.str x1.Rec.Text],0⟩,none,some ⟨[.j v1.No,.j v1.Gen,.j v1.End,.sl 5 0 v1.Items.length],0⟩,some ⟨[.j v2.1.Gen,.j v2.1.Seq,.str v2.1.Body],0⟩,some ⟨fl (encS true) v10.2.Disk.Sectors,1⟩,some ⟨fl (enc_TWrite true) v10.2.Disk.Cache,2⟩,some ⟨fl (enc_TSeg true) v10.2.Used,4⟩] rfl rfl ?_
      refine RW.cond_f rfl (RW.skip ?_)
      obtain ⟨v11,e11,h26⟩:=bindS h25
      refine RW.gh (Gh.blk (b:=10) rfl (raw_at ek_TSeg e11)) ?_
      refine RW.gh (Gh.expose_raw (b:=10) (j:=3) rfl rfl (by decide) (ek_TItem.fown _)) ?_
      refine RW.sdrw (rdraw.op rfl rfl (rdraw.op rfl rfl (rdraw.op rfl rfl (rdraw.op rfl rfl (rdraw.op rfl rfl (rdraw.op rfl rfl (rdraw.op rfl rfl (rdraw.op rfl rfl (rdraw.op rfl rfl (rdraw.op rfl rfl ?_))))))))))
      refine rdraw.op rfl (x_ia_sl rfl rfl rfl rfl e11) ?_
      refine rdraw.op rfl (x_ld_rawa (off':=0) (us:=[.j v11.No,.j v11.Gen,.j v11.End,.sl 11 0 v11.Items.length]) ek_TSeg rfl rfl e11 rfl rfl rfl) ?_
      refine rdraw.chn rfl rfl ?_
      refine rdraw.done ?_
      refine RW.kp [0,4,7,8] [(0,.ptr 0 0),(4,.ptr 4 0),(7,.ptr 6 0),(8,.ptr 7 0)] [some ⟨[.sl 8 0 v10.2.Disk.Sectors.length,.sl 9 0 v10.2.Disk.Cache.length,.j v10.2.Segs,.sl 10 0 v10.2.Used.length,.j v10.2.NextGen,.j v10.2.NextSeq,.j v10.2.Stamp,.j v10.2.NextValid],0⟩,none,none,none,some ⟨[.j x1.Seq,.j x1.Rec.Kind,.j x1.Rec.Valid,.j x1.Rec.Uid,.j x1.Rec.Next,.j x1.Rec.Flags,.str x1.Rec.User,.str x1.Rec.Name,.str x1.Rec.Text],0⟩,none,some ⟨[.j v11.No,.j v11.Gen,.j v11.End,.sl 11 0 v11.Items.length],0⟩,some ⟨[.j v2.1.Gen,.j v2.1.Seq,.str v2.1.Body],0⟩,some ⟨fl (encS true) v10.2.Disk.Sectors,1⟩,some ⟨fl (enc_TWrite true) v10.2.Disk.Cache,2⟩,some ⟨fl (enc_TSeg true) (v10.2.Used.take (w64 ((v10.2.Used.length : Int) - 1)).toNat) ++ ([.j v11.No,.j v11.Gen,.j v11.End,.sl 11 0 v11.Items.length] ++ fl (enc_TSeg true) (v10.2.Used.drop ((w64 ((v10.2.Used.length : Int) - 1)).toNat + 1))),4⟩,some ⟨fl (enc_TItem true) v11.Items,9⟩] rfl rfl ?_
      refine RW.sreg (rl.run 4 rfl (rl.done (RW.sreg (rl.run 1 rfl ?_))))
      obtain ⟨v12,e12,h27⟩:=bindS h26
      refine rl.call rfl rfl rfl (CallW.val (r':=.tup [.str v12.1,.bool v12.2]) ok_spec_FrameText (law_spec_FrameText e12) (.cons (DFL.agg (.cons .int (.cons .int (.cons .str .nil)))) .nil) (FlL.tup (.cons .refl (.cons .refl .nil))) ?_)
      refine rl.run 5 rfl (rl.done (RW.seq (RW.reg (rl.run 3 rfl ?_))))
      cases hb : (!v12.2)
      ·have h28:=iteBF h27 hb
       refine rl.run 5 rfl ?_
       refine rl.gen rfl rfl fun b hb=>?_
       cases b
       ·have h29:=iteBF h28 hb
        refine rl.run 1 rfl (rl.done (RW.cond_f rfl (RW.skip (RW.sdrw (rdraw.op rfl rfl (rdraw.op rfl rfl (rdraw.op rfl rfl (rdraw.op rfl rfl (rdraw.op rfl rfl (rdraw.op rfl rfl (rdraw.op rfl rfl ?_)))))))))))
        refine rdraw.op rfl rfl (rdraw.op rfl rfl ?_)
        obtain ⟨v13,e13,h30⟩:=bindS h29
        refine rdraw.call rfl rfl rfl (CallW.val (r':=.tup [.agg (enc_TDisk false v13.1),.bool v13.2]) ok_spec_SegWrite (law_spec_SegWrite e13) (.cons (DFL.agg (.cons (.slq ekS rfl rfl) (.cons (.slq ek_TWrite rfl rfl) .nil))) (.cons .int (.cons .int (.cons .str .nil)))) (FlL.tup (.cons (ek_TDisk.flag _).agg (.cons .refl .nil))) ⟨rfl,?_⟩)
        refine rdraw.op rfl rfl (rdraw.op rfl rfl (rdraw.op rfl rfl ?_))
        refine rdraw.chnB rfl rfl (.here (.rx rfl) (.here (.rx rfl) (.here (.rx rfl) (.here (.cl rfl rfl (CallW.val (r':=.tup [.agg (enc_TDisk false v13.1),.bool v13.2]) ok_spec_SegWrite (law_spec_SegWrite e13) (.cons (DFL.agg (.cons (.slq ekS rfl rfl) (.cons (.slq ek_TWrite rfl rfl) .nil))) (.cons .int (.cons .int (.cons .str .nil)))) (FlL.tup (.cons (ek_TDisk.flag _).agg (.cons .refl .nil))) ⟨rfl,rfl⟩)) (.here (.rx rfl) (.here (.rx rfl) (.here (.rx rfl) (.here (.rx rfl) (.here (.rx rfl) (.here (.rx rfl) (.here (.rx rfl) (.here (.rx rfl) (.here (.rx rfl) .nil))))))))))))) ?_
        refine rdraw.chnB rfl rfl (.here (.rx rfl) (.skip rfl (.skip rfl (.skip rfl (.skip rfl (.skip rfl (.skip rfl (.skip rfl (.skip rfl (.skip rfl (.skip rfl (.skip rfl (.skip rfl .nil))))))))))))) ?_
        refine rdraw.op rfl rfl (rdraw.done ?_)
        refine RW.kp [0,4,7,10,12,13] [(0,.ptr 0 0),(4,.ptr 4 0),(7,.ptr 6 0),(10,.str v12.1),(12,.ptr 12 0),(13,.bool v13.2)] [some ⟨[.sl 8 0 v10.2.Disk.Sectors.length,.sl 9 0 v10.2.Disk.Cache.length,.j v10.2.Segs,.sl 10 0 v10.2.Used.length,.j v10.2.NextGen,.j v10.2.NextSeq,.j v10.2.Stamp,.j v10.2.NextValid],0⟩,none,none,none,some ⟨[.j x1.Seq,.j x1.Rec.Kind,.j x1.Rec.Valid,.j x1.Rec.Uid,.j x1.Rec.Next,.j x1.Rec.Flags,.str x1.Rec.User,.str x1.Rec.Name,.str x1.Rec.Text],0⟩,none,some ⟨[.j v11.No,.j v11.Gen,.j v11.End,.sl 11 0 v11.Items.length],0⟩,some ⟨[.j v11.Gen,.j v2.1.Seq,.str v2.1.Body],0⟩,some ⟨fl (encS true) v10.2.Disk.Sectors,1⟩,some ⟨fl (enc_TWrite true) v10.2.Disk.Cache,2⟩,some ⟨fl (enc_TSeg true) (v10.2.Used.take (w64 ((v10.2.Used.length : Int) - 1)).toNat) ++ ([.j v11.No,.j v11.Gen,.j v11.End,.sl 11 0 v11.Items.length] ++ fl (enc_TSeg true) (v10.2.Used.drop ((w64 ((v10.2.Used.length : Int) - 1)).toNat + 1))),4⟩,some ⟨fl (enc_TItem true) v11.Items,9⟩,some ⟨[L_S v13.1.Sectors,L_TWrite v13.1.Cache],0⟩] rfl rfl ?_
        refine RW.seq (RW.sreg (rl.run 2 rfl (rl.done ?_)))
        cases hb : (!v13.2)
        ·have h31:=iteBF h30 hb
         refine RW.cond_f rfl (RW.skip (RW.sreg (rl.run 2 rfl ?_)))
         obtain ⟨v14,e14,h32⟩:=bindS h31
         refine rl.call rfl rfl rfl (CallW.own (r':=.agg [.sl 13 0 v14.Sectors.length,.sl 14 0 v14.Cache.length]) (H':=[some ⟨[.sl 8 0 v10.2.Disk.Sectors.length,.sl 9 0 v10.2.Disk.Cache.length,.j v10.2.Segs,.sl 10 0 v10.2.Used.length,.j v10.2.NextGen,.j v10.2.NextSeq,.j v10.2.Stamp,.j v10.2.NextValid],0⟩,none,none,none,some ⟨[.j x1.Seq,.j x1.Rec.Kind,.j x1.Rec.Valid,.j x1.Rec.Uid,.j x1.Rec.Next,.j x1.Rec.Flags,.str x1.Rec.User,.str x1.Rec.Name,.str x1.Rec.Text],0⟩,none,some ⟨[.j v11.No,.j v11.Gen,.j v11.End,.sl 11 0 v11.Items.length],0⟩,some ⟨[.j v11.Gen,.j v2.1.Seq,.str v2.1.Body],0⟩,some ⟨fl (encS true) v10.2.Disk.Sectors,1⟩,some ⟨fl (enc_TWrite true) v10.2.Disk.Cache,2⟩,some ⟨fl (enc_TSeg true) (v10.2.Used.take (w64 ((v10.2.Used.length : Int) - 1)).toNat) ++ ([.j v11.No,.j v11.Gen,.j v11.End,.sl 11 0 v11.Items.length] ++ fl (enc_TSeg true) (v10.2.Used.drop ((w64 ((v10.2.Used.length : Int) - 1)).toNat + 1))),4⟩,some ⟨fl (enc_TItem true) v11.Items,9⟩,some ⟨[L_S v13.1.Sectors,L_TWrite v13.1.Cache],0⟩,some ⟨fl (encS true) v14.Sectors,1⟩,some ⟨fl (enc_TWrite true) v14.Cache,2⟩]) ok_spec_FlushDisk (law_spec_FlushDisk e14) (.cons (DFL.agg (.cons (.lst ekS) (.cons (.lst ek_TWrite) .nil))) .nil) (ek_TDisk.own _) rfl ?_)
         refine rl.run 3 rfl (rl.done (RW.sreg (rl.run 7 rfl (rl.done ?_))))
         refine RW.kp [0,4,7] [(0,.ptr 0 0),(4,.ptr 4 0),(7,.ptr 6 0)] [some ⟨[.sl 13 0 v14.Sectors.length,.sl 14 0 v14.Cache.length,.j v10.2.Segs,.sl 10 0 v10.2.Used.length,.j v10.2.NextGen,.j v10.2.NextSeq,.j v10.2.Stamp,.j v10.2.NextValid],0⟩,none,none,none,some ⟨[.j x1.Seq,.j x1.Rec.Kind,.j x1.Rec.Valid,.j x1.Rec.Uid,.j x1.Rec.Next,.j x1.Rec.Flags,.str x1.Rec.User,.str x1.Rec.Name,.str x1.Rec.Text],0⟩,none,some ⟨[.j v11.No,.j v11.Gen,.j (w64 (v11.End + (v12.1.length : Int))),.sl 11 0 v11.Items.length],0⟩,some ⟨[.j v11.Gen,.j v2.1.Seq,.str v2.1.Body],0⟩,some ⟨fl (encS true) v10.2.Disk.Sectors,1⟩,some ⟨fl (enc_TWrite true) v10.2.Disk.Cache,2⟩,some ⟨fl (enc_TSeg true) (v10.2.Used.take (w64 ((v10.2.Used.length : Int) - 1)).toNat) ++ ([.j v11.No,.j v11.Gen,.j v11.End,.sl 11 0 v11.Items.length] ++ fl (enc_TSeg true) (v10.2.Used.drop ((w64 ((v10.2.Used.length : Int) - 1)).toNat + 1))),4⟩,some ⟨fl (enc_TItem true) v11.Items,9⟩,some ⟨[L_S v13.1.Sectors,L_TWrite v13.1.Cache],0⟩,some ⟨fl (encS true) v14.Sectors,1⟩,some ⟨fl (enc_TWrite true) v14.Cache,2⟩] rfl rfl ?_
         refine RW.sdrw (rdraw.op rfl rfl (rdraw.op rfl rfl (rdraw.op rfl rfl ?_)))
         obtain ⟨v15,e15,h33⟩:=bindS h32
         refine rdraw.chn rfl (x_app rfl rfl (rapp_nil (m:=v11.Items) (o:=true) ek_TItem (acont_slq (m:=v11.Items) (o:=true) fk_TItem rfl rfl) rfl (fk_TItem.fst _ _) e15)) ?_
         refine rdraw.opA rfl rfl (.here (.rx rfl) .nil) ?_
         refine rdraw.litA (u:=L_TItem ([x1] : List TItem)) rfl rfl (Lit.mk rfl rfl) (.here (.lit rfl (Lit.mk rfl rfl)) .nil) ?_
         obtain ⟨v16,e16,h34⟩:=bindS h33
         refine rdraw.chn rfl (x_app rfl rfl (rapp_sl (l:=v15) (m:=([x1] : List TItem)) (o:=true) ek_TItem rfl rfl acont_lst rfl (fk_TItem.fst _ _) e16)) ?_
         refine rdraw.op rfl rfl ?_
         refine rdraw.chn rfl rfl ?_
         refine rdraw.done ?_
         refine RW.gh (Gh.absorb_rawq (b:=10) (j:=3) (m:=11) rfl rfl rfl (by decide) (by decide) rfl (ek_TItem.flen true _) (ek_TItem.fown _)) ?_
         refine RW.gh (Gh.blk (b:=10) rfl (raw_at ek_TSeg e11).symm) ?_
         refine RW.sdrw (rdraw.op rfl rfl (rdraw.op rfl rfl (rdraw.op rfl rfl (rdraw.op rfl rfl (rdraw.op rfl rfl (rdraw.op rfl rfl (rdraw.op rfl rfl (rdraw.op rfl rfl (rdraw.op rfl rfl (rdraw.op rfl rfl (rdraw.op rfl rfl ?_)))))))))))
         obtain ⟨v17,e17,h35⟩:=bindS h34
         refine rdraw.op rfl (x_ia_sl rfl rfl rfl rfl e17) ?_
         obtain ⟨v18,e18,h36⟩:=bindS h35
         refine rdraw.chn rfl (x_st_raw (off':=0) ek_TSeg e17 rfl rfl rfl rfl rfl rfl rfl rfl) ?_
         refine rdraw.done ?_
         refine RW.gh (Gh.absorb_rawq (b:=10) (j:=3) (m:=16) rfl rfl rfl (by decide) (by decide) rfl (ek_TItem.flen true _) (ek_TItem.fown _)) ?_
         refine RW.gh (Gh.blk (b:=10) rfl (raw_set ek_TSeg e17 e18 rfl)) ?_
         refine RW.kp [0,4] [(0,.ptr 0 0),(4,.ptr 4 0)] [some ⟨[.sl 13 0 v14.Sectors.length,.sl 14 0 v14.Cache.length,.j v10.2.Segs,.sl 10 0 v10.2.Used.length,.j v10.2.NextGen,.j v10.2.NextSeq,.j v10.2.Stamp,.j v10.2.NextValid],0⟩,none,none,none,some ⟨[.j x1.Seq,.j x1.Rec.Kind,.j x1.Rec.Valid,.j x1.Rec.Uid,.j x1.Rec.Next,.j x1.Rec.Flags,.str x1.Rec.User,.str x1.Rec.Name,.str x1.Rec.Text],0⟩,none,some ⟨[.j v11.No,.j v11.Gen,.j (w64 (v11.End + (v12.1.length : Int))),.sl 16 0 v16.length],0⟩,some ⟨[.j v11.Gen,.j v2.1.Seq,.str v2.1.Body],0⟩,some ⟨fl (encS true) v10.2.Disk.Sectors,1⟩,some ⟨fl (enc_TWrite true) v10.2.Disk.Cache,2⟩,some ⟨fl (enc_TSeg true) v18,4⟩,none,some ⟨[L_S v13.1.Sectors,L_TWrite v13.1.Cache],0⟩,some ⟨fl (encS true) v14.Sectors,1⟩,some ⟨fl (enc_TWrite true) v14.Cache,2⟩,none,none] rfl rfl ?_
         refine RW.seq (RW.sdrw (rdraw.op rfl rfl (rdraw.op rfl rfl (rdraw.op rfl rfl (rdraw.op rfl rfl (rdraw.op rfl rfl (rdraw.op rfl rfl ?_)))))))
         refine rdraw.gen rfl rfl fun b hb=>?_
         cases b
         ·have h37:=iteBF h36 hb
          refine rdraw.done (RW.cond_f rfl (RW.skip (RW.seq (RW.sdrw (rdraw.op rfl rfl (rdraw.op rfl rfl (rdraw.op rfl rfl (rdraw.op rfl rfl (rdraw.op rfl rfl (rdraw.op rfl rfl (rdraw.op rfl rfl ?_)))))))))))
          refine rdraw.gen rfl rfl fun b hb=>?_
          cases b
          ·have h38:=iteBF h37 hb
           refine rdraw.done ?_
           refine RW.kp [0,4,155] [(0,.ptr 0 0),(4,.ptr 4 0),(155,.bool false)] [some ⟨[.sl 13 0 v14.Sectors.length,.sl 14 0 v14.Cache.length,.j v10.2.Segs,.sl 10 0 v10.2.Used.length,.j v10.2.NextGen,.j v10.2.NextSeq,.j v10.2.Stamp,.j v10.2.NextValid],0⟩,none,none,none,some ⟨[.j x1.Seq,.j x1.Rec.Kind,.j x1.Rec.Valid,.j x1.Rec.Uid,.j x1.Rec.Next,.j x1.Rec.Flags,.str x1.Rec.User,.str x1.Rec.Name,.str x1.Rec.Text],0⟩,none,some ⟨[.j v11.No,.j v11.Gen,.j (w64 (v11.End + (v12.1.length : Int))),.sl 16 0 v16.length],0⟩,some ⟨[.j v11.Gen,.j v2.1.Seq,.str v2.1.Body],0⟩,some ⟨fl (encS true) v10.2.Disk.Sectors,1⟩,some ⟨fl (enc_TWrite true) v10.2.Disk.Cache,2⟩,some ⟨fl (enc_TSeg true) v18,4⟩,none,some ⟨[L_S v13.1.Sectors,L_TWrite v13.1.Cache],0⟩,some ⟨fl (encS true) v14.Sectors,1⟩,some ⟨fl (enc_TWrite true) v14.Cache,2⟩,none,none] rfl rfl ?_
           refine RW.cond_f rfl (RW.skip (RW.sreg (rl.run 1 rfl (rl.done (RW.ret ?_)))))
           cases h38
           exact RRetS.mk rfl .bool (Gh.trans (Gh.absorbq (b:=0) (j:=0) (m:=13) rfl rfl rfl (by decide) (by decide) rfl (ekS.flen true _) (ekS.fown _)) (Gh.trans (Gh.absorbq (b:=0) (j:=1) (m:=14) rfl rfl rfl (by decide) (by decide) rfl (ek_TWrite.flen true _) (ek_TWrite.fown _)) (Gh.trans (Gh.absorbq (b:=0) (j:=3) (m:=10) rfl rfl rfl (by decide) (by decide) (set'_len e18) (ek_TSeg.flen true _) (ek_TSeg.fown _)) (Gh.renN [0] (.cells rfl rfl (.keep (ekS.rlst) (.keep (ek_TWrite.rlst) (.keep .int (.keep (ek_TSeg.rlst) (.keep .int (.keep .int (.keep .int (.keep .int .nil)))))))) .nil) rfl rfl rfl .nil))))
          ·have h39:=iteBT h37 hb
           refine rdraw.done ?_
           refine RW.kp [0,4,155] [(0,.ptr 0 0),(4,.ptr 4 0),(155,.bool true)] [some ⟨[.sl 13 0 v14.Sectors.length,.sl 14 0 v14.Cache.length,.j v10.2.Segs,.sl 10 0 v10.2.Used.length,.j v10.2.NextGen,.j v10.2.NextSeq,.j v10.2.Stamp,.j v10.2.NextValid],0⟩,none,none,none,some ⟨[.j x1.Seq,.j x1.Rec.Kind,.j x1.Rec.Valid,.j x1.Rec.Uid,.j x1.Rec.Next,.j x1.Rec.Flags,.str x1.Rec.User,.str x1.Rec.Name,.str x1.Rec.Text],0⟩,none,some ⟨[.j v11.No,.j v11.Gen,.j (w64 (v11.End + (v12.1.length : Int))),.sl 16 0 v16.length],0⟩,some ⟨[.j v11.Gen,.j v2.1.Seq,.str v2.1.Body],0⟩,some ⟨fl (encS true) v10.2.Disk.Sectors,1⟩,some ⟨fl (enc_TWrite true) v10.2.Disk.Cache,2⟩,some ⟨fl (enc_TSeg true) v18,4⟩,none,some ⟨[L_S v13.1.Sectors,L_TWrite v13.1.Cache],0⟩,some ⟨fl (encS true) v14.Sectors,1⟩,some ⟨fl (enc_TWrite true) v14.Cache,2⟩,none,none] rfl rfl ?_
           refine RW.cond_t rfl (RW.reg (rl.run 8 rfl (rl.done (RW.sreg (rl.run 1 rfl (rl.done (RW.ret ?_)))))))
           cases h39
           exact RRetS.mk rfl .bool (Gh.trans (Gh.absorbq (b:=0) (j:=0) (m:=13) rfl rfl rfl (by decide) (by decide) rfl (ekS.flen true _) (ekS.fown _)) (Gh.trans (Gh.absorbq (b:=0) (j:=1) (m:=14) rfl rfl rfl (by decide) (by decide) rfl (ek_TWrite.flen true _) (ek_TWrite.fown _)) (Gh.trans (Gh.absorbq (b:=0) (j:=3) (m:=10) rfl rfl rfl (by decide) (by decide) (set'_len e18) (ek_TSeg.flen true _) (ek_TSeg.fown _)) (Gh.renN [0] (.cells rfl rfl (.keep (ekS.rlst) (.keep (ek_TWrite.rlst) (.keep .int (.keep (ek_TSeg.rlst) (.keep .int (.keep .int (.keep .int (.keep .int .nil)))))))) .nil) rfl rfl rfl .nil))))
         ·have h40:=iteBT h36 hb
          refine rdraw.done (RW.cond_t rfl (RW.reg (rl.run 7 rfl (rl.done (RW.seq (RW.sdrw (rdraw.op rfl rfl (rdraw.op rfl rfl (rdraw.op rfl rfl (rdraw.op rfl rfl (rdraw.op rfl rfl ?_)))))))))))
          refine rdraw.op rfl rfl (rdraw.op rfl rfl ?_)
          refine rdraw.gen rfl rfl fun b hb=>?_
          cases b
          ·have h41:=iteBF h40 hb
           refine rdraw.done ?_
           refine RW.kp [0,4,155] [(0,.ptr 0 0),(4,.ptr 4 0),(155,.bool false)] [some ⟨[.sl 13 0 v14.Sectors.length,.sl 14 0 v14.Cache.length,.j v10.2.Segs,.sl 10 0 v10.2.Used.length,.j v10.2.NextGen,.j (w64 (x1.Seq + 1)),.j v10.2.Stamp,.j v10.2.NextValid],0⟩,none,none,none,some ⟨[.j x1.Seq,.j x1.Rec.Kind,.j x1.Rec.Valid,.j x1.Rec.Uid,.j x1.Rec.Next,.j x1.Rec.Flags,.str x1.Rec.User,.str x1.Rec.Name,.str x1.Rec.Text],0⟩,none,some ⟨[.j v11.No,.j v11.Gen,.j (w64 (v11.End + (v12.1.length : Int))),.sl 16 0 v16.length],0⟩,some ⟨[.j v11.Gen,.j v2.1.Seq,.str v2.1.Body],0⟩,some ⟨fl (encS true) v10.2.Disk.Sectors,1⟩,some ⟨fl (enc_TWrite true) v10.2.Disk.Cache,2⟩,some ⟨fl (enc_TSeg true) v18,4⟩,none,some ⟨[L_S v13.1.Sectors,L_TWrite v13.1.Cache],0⟩,some ⟨fl (encS true) v14.Sectors,1⟩,some ⟨fl (enc_TWrite true) v14.Cache,2⟩,none,none] rfl rfl ?_
           refine RW.cond_f rfl (RW.skip (RW.sreg (rl.run 1 rfl (rl.done (RW.ret ?_)))))
           cases h41
           exact RRetS.mk rfl .bool (Gh.trans (Gh.absorbq (b:=0) (j:=0) (m:=13) rfl rfl rfl (by decide) (by decide) rfl (ekS.flen true _) (ekS.fown _)) (Gh.trans (Gh.absorbq (b:=0) (j:=1) (m:=14) rfl rfl rfl (by decide) (by decide) rfl (ek_TWrite.flen true _) (ek_TWrite.fown _)) (Gh.trans (Gh.absorbq (b:=0) (j:=3) (m:=10) rfl rfl rfl (by decide) (by decide) (set'_len e18) (ek_TSeg.flen true _) (ek_TSeg.fown _)) (Gh.renN [0] (.cells rfl rfl (.keep (ekS.rlst) (.keep (ek_TWrite.rlst) (.keep .int (.keep (ek_TSeg.rlst) (.keep .int (.keep .int (.keep .int (.keep .int .nil)))))))) .nil) rfl rfl rfl .nil))))
          ·have h42:=iteBT h40 hb
           refine rdraw.done ?_
           refine RW.kp [0,4,155] [(0,.ptr 0 0),(4,.ptr 4 0),(155,.bool true)] [some ⟨[.sl 13 0 v14.Sectors.length,.sl 14 0 v14.Cache.length,.j v10.2.Segs,.sl 10 0 v10.2.Used.length,.j v10.2.NextGen,.j (w64 (x1.Seq + 1)),.j v10.2.Stamp,.j v10.2.NextValid],0⟩,none,none,none,some ⟨[.j x1.Seq,.j x1.Rec.Kind,.j x1.Rec.Valid,.j x1.Rec.Uid,.j x1.Rec.Next,.j x1.Rec.Flags,.str x1.Rec.User,.str x1.Rec.Name,.str x1.Rec.Text],0⟩,none,some ⟨[.j v11.No,.j v11.Gen,.j (w64 (v11.End + (v12.1.length : Int))),.sl 16 0 v16.length],0⟩,some ⟨[.j v11.Gen,.j v2.1.Seq,.str v2.1.Body],0⟩,some ⟨fl (encS true) v10.2.Disk.Sectors,1⟩,some ⟨fl (enc_TWrite true) v10.2.Disk.Cache,2⟩,some ⟨fl (enc_TSeg true) v18,4⟩,none,some ⟨[L_S v13.1.Sectors,L_TWrite v13.1.Cache],0⟩,some ⟨fl (encS true) v14.Sectors,1⟩,some ⟨fl (enc_TWrite true) v14.Cache,2⟩,none,none] rfl rfl ?_
           refine RW.cond_t rfl (RW.reg (rl.run 8 rfl (rl.done (RW.sreg (rl.run 1 rfl (rl.done (RW.ret ?_)))))))
           cases h42
           exact RRetS.mk rfl .bool (Gh.trans (Gh.absorbq (b:=0) (j:=0) (m:=13) rfl rfl rfl (by decide) (by decide) rfl (ekS.flen true _) (ekS.fown _)) (Gh.trans (Gh.absorbq (b:=0) (j:=1) (m:=14) rfl rfl rfl (by decide) (by decide) rfl (ek_TWrite.flen true _) (ek_TWrite.fown _)) (Gh.trans (Gh.absorbq (b:=0) (j:=3) (m:=10) rfl rfl rfl (by decide) (by decide) (set'_len e18) (ek_TSeg.flen true _) (ek_TSeg.fown _)) (Gh.renN [0] (.cells rfl rfl (.keep (ekS.rlst) (.keep (ek_TWrite.rlst) (.keep .int (.keep (ek_TSeg.rlst) (.keep .int (.keep .int (.keep .int (.keep .int .nil)))))))) .nil) rfl rfl rfl .nil))))
        ·have h43:=iteBT h30 hb
         refine RW.cond_t rfl (RW.sreg (rl.run 1 rfl (rl.done ?_)))
         refine RW.gh (Gh.absorb_rawq (b:=10) (j:=3) (m:=11) rfl rfl rfl (by decide) (by decide) rfl (ek_TItem.flen true _) (ek_TItem.fown _)) ?_
         refine RW.gh (Gh.blk (b:=10) rfl (raw_at ek_TSeg e11).symm) ?_
         refine RW.ret ?_
         cases h43
         exact RRetS.mk rfl .bool (Gh.trans (Gh.absorbq (b:=0) (j:=0) (m:=8) rfl rfl rfl (by decide) (by decide) rfl (ekS.flen true _) (ekS.fown _)) (Gh.trans (Gh.absorbq (b:=0) (j:=1) (m:=9) rfl rfl rfl (by decide) (by decide) rfl (ek_TWrite.flen true _) (ek_TWrite.fown _)) (Gh.trans (Gh.absorbq (b:=0) (j:=3) (m:=10) rfl rfl rfl (by decide) (by decide) rfl (ek_TSeg.flen true _) (ek_TSeg.fown _)) (Gh.renN [0] (.cells rfl rfl (.keep (ekS.rlst) (.keep (ek_TWrite.rlst) (.keep .int (.keep (ek_TSeg.rlst) (.keep .int (.keep .int (.keep .int (.keep .int .nil)))))))) .nil) rfl rfl rfl .nil))))
       ·have h44:=iteBT h28 hb
        refine rl.run 1 rfl (rl.done (RW.cond_t rfl (RW.sreg (rl.run 1 rfl (rl.done ?_)))))
        refine RW.kp [6] [(6,.bool false)] [some ⟨[.sl 8 0 v10.2.Disk.Sectors.length,.sl 9 0 v10.2.Disk.Cache.length,.j v10.2.Segs,.sl 10 0 v10.2.Used.length,.j v10.2.NextGen,.j v10.2.NextSeq,.j v10.2.Stamp,.j v10.2.NextValid],0⟩,none,none,none,some ⟨[.j x1.Seq,.j x1.Rec.Kind,.j x1.Rec.Valid,.j x1.Rec.Uid,.j x1.Rec.Next,.j x1.Rec.Flags,.str x1.Rec.User,.str x1.Rec.Name,.str x1.Rec.Text],0⟩,none,some ⟨[.j v11.No,.j v11.Gen,.j v11.End,.sl 11 0 v11.Items.length],0⟩,some ⟨[.j v11.Gen,.j v2.1.Seq,.str v2.1.Body],0⟩,some ⟨fl (encS true) v10.2.Disk.Sectors,1⟩,some ⟨fl (enc_TWrite true) v10.2.Disk.Cache,2⟩,some ⟨fl (enc_TSeg true) (v10.2.Used.take (w64 ((v10.2.Used.length : Int) - 1)).toNat) ++ ([.j v11.No,.j v11.Gen,.j v11.End,.sl 11 0 v11.Items.length] ++ fl (enc_TSeg true) (v10.2.Used.drop ((w64 ((v10.2.Used.length : Int) - 1)).toNat + 1))),4⟩,some ⟨fl (enc_TItem true) v11.Items,9⟩] rfl rfl ?_
        refine RW.gh (Gh.absorb_rawq (b:=10) (j:=3) (m:=11) rfl rfl rfl (by decide) (by decide) rfl (ek_TItem.flen true _) (ek_TItem.fown _)) ?_
        refine RW.gh (Gh.blk (b:=10) rfl (raw_at ek_TSeg e11).symm) ?_
        refine RW.ret ?_
        cases h44
        exact RRetS.mk rfl .bool (Gh.trans (Gh.absorbq (b:=0) (j:=0) (m:=8) rfl rfl rfl (by decide) (by decide) rfl (ekS.flen true _) (ekS.fown _)) (Gh.trans (Gh.absorbq (b:=0) (j:=1) (m:=9) rfl rfl rfl (by decide) (by decide) rfl (ek_TWrite.flen true _) (ek_TWrite.fown _)) (Gh.trans (Gh.absorbq (b:=0) (j:=3) (m:=10) rfl rfl rfl (by decide) (by decide) rfl (ek_TSeg.flen true _) (ek_TSeg.fown _)) (Gh.renN [0] (.cells rfl rfl (.keep (ekS.rlst) (.keep (ek_TWrite.rlst) (.keep .int (.keep (ek_TSeg.rlst) (.keep .int (.keep .int (.keep .int (.keep .int .nil)))))))) .nil) rfl rfl rfl .nil))))
      ·have h45:=iteBT h27 hb
       refine rl.run 7 rfl (rl.done (RW.cond_t rfl (RW.sreg (rl.run 1 rfl (rl.done ?_)))))
       refine RW.kp [6] [(6,.bool false)] [some ⟨[.sl 8 0 v10.2.Disk.Sectors.length,.sl 9 0 v10.2.Disk.Cache.length,.j v10.2.Segs,.sl 10 0 v10.2.Used.length,.j v10.2.NextGen,.j v10.2.NextSeq,.j v10.2.Stamp,.j v10.2.NextValid],0⟩,none,none,none,some ⟨[.j x1.Seq,.j x1.Rec.Kind,.j x1.Rec.Valid,.j x1.Rec.Uid,.j x1.Rec.Next,.j x1.Rec.Flags,.str x1.Rec.User,.str x1.Rec.Name,.str x1.Rec.Text],0⟩,none,some ⟨[.j v11.No,.j v11.Gen,.j v11.End,.sl 11 0 v11.Items.length],0⟩,some ⟨[.j v11.Gen,.j v2.1.Seq,.str v2.1.Body],0⟩,some ⟨fl (encS true) v10.2.Disk.Sectors,1⟩,some ⟨fl (enc_TWrite true) v10.2.Disk.Cache,2⟩,some ⟨fl (enc_TSeg true) (v10.2.Used.take (w64 ((v10.2.Used.length : Int) - 1)).toNat) ++ ([.j v11.No,.j v11.Gen,.j v11.End,.sl 11 0 v11.Items.length] ++ fl (enc_TSeg true) (v10.2.Used.drop ((w64 ((v10.2.Used.length : Int) - 1)).toNat + 1))),4⟩,some ⟨fl (enc_TItem true) v11.Items,9⟩] rfl rfl ?_
       refine RW.gh (Gh.absorb_rawq (b:=10) (j:=3) (m:=11) rfl rfl rfl (by decide) (by decide) rfl (ek_TItem.flen true _) (ek_TItem.fown _)) ?_
       refine RW.gh (Gh.blk (b:=10) rfl (raw_at ek_TSeg e11).symm) ?_
       refine RW.ret ?_
       cases h45
       exact RRetS.mk rfl .bool (Gh.trans (Gh.absorbq (b:=0) (j:=0) (m:=8) rfl rfl rfl (by decide) (by decide) rfl (ekS.flen true _) (ekS.fown _)) (Gh.trans (Gh.absorbq (b:=0) (j:=1) (m:=9) rfl rfl rfl (by decide) (by decide) rfl (ek_TWrite.flen true _) (ek_TWrite.fown _)) (Gh.trans (Gh.absorbq (b:=0) (j:=3) (m:=10) rfl rfl rfl (by decide) (by decide) rfl (ek_TSeg.flen true _) (ek_TSeg.fown _)) (Gh.renN [0] (.cells rfl rfl (.keep (ekS.rlst) (.keep (ek_TWrite.rlst) (.keep .int (.keep (ek_TSeg.rlst) (.keep .int (.keep .int (.keep .int (.keep .int .nil)))))))) .nil) rfl rfl rfl .nil))))
   ·have h46:=iteBT h5 hb
    refine rl.run 1 rfl (rl.done (RW.cond_t rfl (RW.sreg (rl.run 1 rfl (rl.done ?_)))))
    refine RW.kp [6] [(6,.bool false)] [some ⟨[.sl 1 0 x0.Disk.Sectors.length,.sl 2 0 x0.Disk.Cache.length,.j x0.Segs,.sl 3 0 x0.Used.length,.j x0.NextGen,.j x0.NextSeq,.j x0.Stamp,.j x0.NextValid],0⟩,some ⟨fl (encS true) x0.Disk.Sectors,1⟩,some ⟨fl (enc_TWrite true) x0.Disk.Cache,2⟩,some ⟨fl (enc_TSeg true) (x0.Used.take (w64 ((x0.Used.length : Int) - 1)).toNat) ++ ([.j v1.No,.j v1.Gen,.j v1.End,.sl 5 0 v1.Items.length] ++ fl (enc_TSeg true) (x0.Used.drop ((w64 ((x0.Used.length : Int) - 1)).toNat + 1))),4⟩,some ⟨[.j x1.Seq,.j x1.Rec.Kind,.j x1.Rec.Valid,.j x1.Rec.Uid,.j x1.Rec.Next,.j x1.Rec.Flags,.str x1.Rec.User,.str x1.Rec.Name,.str x1.Rec.Text],0⟩,some ⟨fl (enc_TItem true) v1.Items,9⟩,some ⟨[.j v1.No,.j v1.Gen,.j v1.End,.sl 5 0 v1.Items.length],0⟩,some ⟨[.j v2.1.Gen,.j v2.1.Seq,.str v2.1.Body],0⟩] rfl rfl ?_
    refine RW.gh (Gh.absorb_rawq (b:=3) (j:=3) (m:=5) rfl rfl rfl (by decide) (by decide) rfl (ek_TItem.flen true _) (ek_TItem.fown _)) ?_
    refine RW.gh (Gh.blk (b:=3) rfl (raw_at ek_TSeg e1).symm) ?_
    refine RW.ret ?_
    cases h46
    exact RRetS.mk rfl .bool (Gh.trans (Gh.absorbq (b:=0) (j:=0) (m:=1) rfl rfl rfl (by decide) (by decide) rfl (ekS.flen true _) (ekS.fown _)) (Gh.trans (Gh.absorbq (b:=0) (j:=1) (m:=2) rfl rfl rfl (by decide) (by decide) rfl (ek_TWrite.flen true _) (ek_TWrite.fown _)) (Gh.trans (Gh.absorbq (b:=0) (j:=3) (m:=3) rfl rfl rfl (by decide) (by decide) rfl (ek_TSeg.flen true _) (ek_TSeg.fown _)) (Gh.renN [0] (.cells rfl rfl (.keep (ekS.rlst) (.keep (ek_TWrite.rlst) (.keep .int (.keep (ek_TSeg.rlst) (.keep .int (.keep .int (.keep .int (.keep .int .nil)))))))) .nil) rfl rfl rfl .nil))))
  ·have h47:=iteBT h4 hb
   refine rl.run 4 rfl (rl.done (RW.cond_t rfl (RW.sreg (rl.run 1 rfl (rl.done ?_)))))
   refine RW.kp [6] [(6,.bool false)] [some ⟨[.sl 1 0 x0.Disk.Sectors.length,.sl 2 0 x0.Disk.Cache.length,.j x0.Segs,.sl 3 0 x0.Used.length,.j x0.NextGen,.j x0.NextSeq,.j x0.Stamp,.j x0.NextValid],0⟩,some ⟨fl (encS true) x0.Disk.Sectors,1⟩,some ⟨fl (enc_TWrite true) x0.Disk.Cache,2⟩,some ⟨fl (enc_TSeg true) (x0.Used.take (w64 ((x0.Used.length : Int) - 1)).toNat) ++ ([.j v1.No,.j v1.Gen,.j v1.End,.sl 5 0 v1.Items.length] ++ fl (enc_TSeg true) (x0.Used.drop ((w64 ((x0.Used.length : Int) - 1)).toNat + 1))),4⟩,some ⟨[.j x1.Seq,.j x1.Rec.Kind,.j x1.Rec.Valid,.j x1.Rec.Uid,.j x1.Rec.Next,.j x1.Rec.Flags,.str x1.Rec.User,.str x1.Rec.Name,.str x1.Rec.Text],0⟩,some ⟨fl (enc_TItem true) v1.Items,9⟩,some ⟨[.j v1.No,.j v1.Gen,.j v1.End,.sl 5 0 v1.Items.length],0⟩,some ⟨[.j v2.1.Gen,.j v2.1.Seq,.str v2.1.Body],0⟩] rfl rfl ?_
   refine RW.gh (Gh.absorb_rawq (b:=3) (j:=3) (m:=5) rfl rfl rfl (by decide) (by decide) rfl (ek_TItem.flen true _) (ek_TItem.fown _)) ?_
   refine RW.gh (Gh.blk (b:=3) rfl (raw_at ek_TSeg e1).symm) ?_
   refine RW.ret ?_
   cases h47
   exact RRetS.mk rfl .bool (Gh.trans (Gh.absorbq (b:=0) (j:=0) (m:=1) rfl rfl rfl (by decide) (by decide) rfl (ekS.flen true _) (ekS.fown _)) (Gh.trans (Gh.absorbq (b:=0) (j:=1) (m:=2) rfl rfl rfl (by decide) (by decide) rfl (ek_TWrite.flen true _) (ek_TWrite.fown _)) (Gh.trans (Gh.absorbq (b:=0) (j:=3) (m:=3) rfl rfl rfl (by decide) (by decide) rfl (ek_TSeg.flen true _) (ek_TSeg.fown _)) (Gh.renN [0] (.cells rfl rfl (.keep (ekS.rlst) (.keep (ek_TWrite.rlst) (.keep .int (.keep (ek_TSeg.rlst) (.keep .int (.keep .int (.keep .int (.keep .int .nil)))))))) .nil) rfl rfl rfl .nil))))
 ·have h48:=iteBT h3 hb
  refine rl.run 8 rfl (rl.done (RW.cond_t rfl (RW.sreg (rl.run 1 rfl (rl.done ?_)))))
  refine RW.kp [6] [(6,.bool false)] [some ⟨[.sl 1 0 x0.Disk.Sectors.length,.sl 2 0 x0.Disk.Cache.length,.j x0.Segs,.sl 3 0 x0.Used.length,.j x0.NextGen,.j x0.NextSeq,.j x0.Stamp,.j x0.NextValid],0⟩,some ⟨fl (encS true) x0.Disk.Sectors,1⟩,some ⟨fl (enc_TWrite true) x0.Disk.Cache,2⟩,some ⟨fl (enc_TSeg true) (x0.Used.take (w64 ((x0.Used.length : Int) - 1)).toNat) ++ ([.j v1.No,.j v1.Gen,.j v1.End,.sl 5 0 v1.Items.length] ++ fl (enc_TSeg true) (x0.Used.drop ((w64 ((x0.Used.length : Int) - 1)).toNat + 1))),4⟩,some ⟨[.j x1.Seq,.j x1.Rec.Kind,.j x1.Rec.Valid,.j x1.Rec.Uid,.j x1.Rec.Next,.j x1.Rec.Flags,.str x1.Rec.User,.str x1.Rec.Name,.str x1.Rec.Text],0⟩,some ⟨fl (enc_TItem true) v1.Items,9⟩,some ⟨[.j v1.No,.j v1.Gen,.j v1.End,.sl 5 0 v1.Items.length],0⟩,some ⟨[.j v2.1.Gen,.j v2.1.Seq,.str v2.1.Body],0⟩] rfl rfl ?_
  refine RW.gh (Gh.absorb_rawq (b:=3) (j:=3) (m:=5) rfl rfl rfl (by decide) (by decide) rfl (ek_TItem.flen true _) (ek_TItem.fown _)) ?_
  refine RW.gh (Gh.blk (b:=3) rfl (raw_at ek_TSeg e1).symm) ?_
  refine RW.ret ?_
  cases h48
  exact RRetS.mk rfl .bool (Gh.trans (Gh.absorbq (b:=0) (j:=0) (m:=1) rfl rfl rfl (by decide) (by decide) rfl (ekS.flen true _) (ekS.fown _)) (Gh.trans (Gh.absorbq (b:=0) (j:=1) (m:=2) rfl rfl rfl (by decide) (by decide) rfl (ek_TWrite.flen true _) (ek_TWrite.fown _)) (Gh.trans (Gh.absorbq (b:=0) (j:=3) (m:=3) rfl rfl rfl (by decide) (by decide) rfl (ek_TSeg.flen true _) (ek_TSeg.fown _)) (Gh.renN [0] (.cells rfl rfl (.keep (ekS.rlst) (.keep (ek_TWrite.rlst) (.keep .int (.keep (ek_TSeg.rlst) (.keep .int (.keep .int (.keep .int (.keep .int .nil)))))))) .nil) rfl rfl rfl .nil))))
set_option maxHeartbeats 2000000 in
theorem law_spec_l09Log_w {x0 : TL01Cur} {B0_ o0_ : Nat} {r : TLog × TL01Cur} (hF : F_spec_l09Log_w x0 = some r) : ACalls Try.prog 0 46 [.ptr 0 0] [some ⟨[pvB B0_ o0_ x0.mB,.j x0.mI,.j x0.mH],0⟩] (.agg [.sl 1 0 r.1.Disk.Sectors.length,.sl 2 0 r.1.Disk.Cache.length,.j r.1.Segs,.sl 3 0 r.1.Used.length,.j r.1.NextGen,.j r.1.NextSeq,.j r.1.Stamp,.j r.1.NextValid]) [some ⟨[pvB B0_ o0_ x0.mB,.j r.2.mI,.j r.2.mH],0⟩,some ⟨fl (encS true) r.1.Disk.Sectors,1⟩,some ⟨fl (enc_TWrite true) r.1.Disk.Cache,2⟩,some ⟨fl (enc_TSeg true) r.1.Used,4⟩]:=by
 refine ACalls.of_m k_spec_l09Log rfl ?_
 unfold F_spec_l09Log_w at hF
 refine RW.sreg (rl.run 1 rfl (rl.done (RW.sreg (rl.run 1 rfl ?_))))
 obtain ⟨v1,e1,h1⟩:=bindS hF
 refine rl.call rfl rfl rfl (CallW.embN (r0:=.j v1.1) (H':=[some ⟨[pvB B0_ o0_ x0.mB,.j v1.2.mI,.j v1.2.mH],0⟩,some ⟨[.nils,.nils,.j 0,.nils,.j 0,.j 0,.j 0,.j 0],0⟩]) [⟨[pvB B0_ o0_ x0.mB,.j x0.mI,.j x0.mH],0⟩] [⟨[pvB B0_ o0_ x0.mB,.j v1.2.mI,.j v1.2.mH],0⟩] [] [0] [pvB B0_ o0_ x0.mB] ok_spec_l01Below (law_spec_l01Below_w e1) (.cons rfl (fac (.pv ekB.rlst) (fac .int (fac .int fan))) (fac (.inr (.head _)) (fac (.inl .int) (fac (.inl .int) fan))) .nil) .nil (.blk 0 0 0 0 0 rfl rfl rfl rfl scalB .nil) rfl (.cons (.ptr rfl) (.cons (.dat .int) .nil)) .int rfl ?_)
 refine rl.run 1 rfl ?_
 obtain ⟨v2,e2,h2⟩:=bindS h1
 refine rl.call rfl rfl rfl (CallW.own (r':=.tup [.agg [.sl 2 0 v2.1.Disk.Sectors.length,.sl 3 0 v2.1.Disk.Cache.length,.j v2.1.Segs,.sl 4 0 v2.1.Used.length,.j v2.1.NextGen,.j v2.1.NextSeq,.j v2.1.Stamp,.j v2.1.NextValid],.bool v2.2]) (H':=[some ⟨[pvB B0_ o0_ x0.mB,.j v1.2.mI,.j v1.2.mH],0⟩,some ⟨[.nils,.nils,.j 0,.nils,.j 0,.j 0,.j 0,.j 0],0⟩,some ⟨fl (encS true) v2.1.Disk.Sectors,1⟩,some ⟨fl (enc_TWrite true) v2.1.Disk.Cache,2⟩,some ⟨fl (enc_TSeg true) v2.1.Used,4⟩]) ok_spec_FormatDisk (law_spec_FormatDisk e2) (.cons .int .nil) (fac (ek_TLog.own _) (fac .bool fan)) rfl ?_)
 refine rl.run 6 rfl (rl.done (RW.seq (RW.sreg (rl.run 1 rfl (rl.done ?_)))))
 obtain ⟨y9,ey9,h4⟩:=bindS h2
 refine RW.cutq (σ:=Int × Int × Int × Int × Int × Int × Int × (List (List UInt8)) × (List TWrite) × (List TSeg)) (fun y4=>[(2,.ptr 1 0),(3,.ptr 2 0)]) (fun y4=>[some ⟨[pvB B0_ o0_ x0.mB,.j y4.1,.j y4.2.1],0⟩,some ⟨[.nils,.nils,.j 0,.nils,.j 0,.j 0,.j 0,.j 0],0⟩,some ⟨[.sl 3 0 y4.2.2.2.2.2.2.2.1.length,.sl 4 0 y4.2.2.2.2.2.2.2.2.1.length,.j y4.2.2.1,.sl 5 0 y4.2.2.2.2.2.2.2.2.2.length,.j y4.2.2.2.1,.j y4.2.2.2.2.1,.j y4.2.2.2.2.2.1,.j y4.2.2.2.2.2.2.1],0⟩,some ⟨fl (encS true) y4.2.2.2.2.2.2.2.1,1⟩,some ⟨fl (enc_TWrite true) y4.2.2.2.2.2.2.2.2.1,2⟩,some ⟨fl (enc_TSeg true) y4.2.2.2.2.2.2.2.2.2,4⟩]) (fun y=>y9 = y) (fun _ _ _ _ g h=>RW.gh g h) ?_ ?_
 ·refine RW.blk ?_
  refine RW.iter (σ:=Int × Int × Int × Int × Int × Int × Int × Int × (List (List UInt8)) × (List TWrite) × (List TSeg)) ey9 (fun s3=>[(0,.ptr 0 0),(2,.ptr 1 0),(3,.ptr 2 0),(5,.j s3.1)]) (fun s3=>[some ⟨[pvB B0_ o0_ x0.mB,.j s3.2.1,.j s3.2.2.1],0⟩,some ⟨[.nils,.nils,.j 0,.nils,.j 0,.j 0,.j 0,.j 0],0⟩,some ⟨[.sl 3 0 s3.2.2.2.2.2.2.2.2.1.length,.sl 4 0 s3.2.2.2.2.2.2.2.2.2.1.length,.j s3.2.2.2.1,.sl 5 0 s3.2.2.2.2.2.2.2.2.2.2.length,.j s3.2.2.2.2.1,.j s3.2.2.2.2.2.1,.j s3.2.2.2.2.2.2.1,.j s3.2.2.2.2.2.2.2.1],0⟩,some ⟨fl (encS true) s3.2.2.2.2.2.2.2.2.1,1⟩,some ⟨fl (enc_TWrite true) s3.2.2.2.2.2.2.2.2.2.1,2⟩,some ⟨fl (enc_TSeg true) s3.2.2.2.2.2.2.2.2.2.2,4⟩]) (Gh.renN [0,1,5,2,3,4] (.cells rfl rfl (.keep (.pv ekB.rlst) (.keep .int (.keep .int .nil))) (.cells rfl rfl (.keep .nils (.keep .nils (.keep .int (.keep .nils (.keep .int (.keep .int (.keep .int (.keep .int .nil)))))))) (.cells rfl rfl (.slq rfl rfl (.slq rfl rfl (.keep .int (.slq rfl rfl (.keep .int (.keep .int (.keep .int (.keep .int .nil)))))))) (.same rfl (ekS.fref _ _) (.same rfl (ek_TWrite.fref _ _) (.same rfl (ek_TSeg.fref _ _) .nil)))))) rfl rfl rfl (.cons rfl (.ptr rfl) (.cons rfl (.ptr rfl) (.cons rfl (.ptr rfl) (.cons rfl (.dat .int) .nil))))) (fun s3 B o hS3 hB3 hE3=>?_)
  unfold S_spec_l09Log_w_1 at hS3
  refine RW.seq (RW.sreg (rl.run 2 rfl ?_))
  obtain ⟨v5,e5,h5⟩:=bindS hS3
  refine rl.call rfl rfl rfl (CallW.embN (r0:=.j v5.1) (H':=[some ⟨[pvB B0_ o0_ x0.mB,.j v5.2.mI,.j v5.2.mH],0⟩,some ⟨[.nils,.nils,.j 0,.nils,.j 0,.j 0,.j 0,.j 0],0⟩,some ⟨[.sl 3 0 s3.2.2.2.2.2.2.2.2.1.length,.sl 4 0 s3.2.2.2.2.2.2.2.2.2.1.length,.j s3.2.2.2.1,.sl 5 0 s3.2.2.2.2.2.2.2.2.2.2.length,.j s3.2.2.2.2.1,.j s3.2.2.2.2.2.1,.j s3.2.2.2.2.2.2.1,.j s3.2.2.2.2.2.2.2.1],0⟩,some ⟨fl (encS true) s3.2.2.2.2.2.2.2.2.1,1⟩,some ⟨fl (enc_TWrite true) s3.2.2.2.2.2.2.2.2.2.1,2⟩,some ⟨fl (enc_TSeg true) s3.2.2.2.2.2.2.2.2.2.2,4⟩]) [⟨[pvB B0_ o0_ x0.mB,.j s3.2.1,.j s3.2.2.1],0⟩] [⟨[pvB B0_ o0_ x0.mB,.j v5.2.mI,.j v5.2.mH],0⟩] [] [0] [pvB B0_ o0_ x0.mB] ok_spec_l01Below (law_spec_l01Below_w e5) (.cons rfl (fac (.pv ekB.rlst) (fac .int (fac .int fan))) (fac (.inr (.head _)) (fac (.inl .int) (fac (.inl .int) fan))) .nil) .nil (.blk 0 0 0 0 0 rfl rfl rfl rfl scalB .nil) rfl (.cons (.ptr rfl) (.cons (.dat .int) .nil)) .int rfl ?_)
  refine rl.gen rfl rfl fun b hb=>?_
  cases b
  ·have h6:=iteBF h5 hb
   refine rl.done (RW.cond_f rfl (RW.exit (blkA_eq ?_)))
   cases h6
   exact ⟨_,(hE3 _ rfl).symm,(Gh.renN [0,1,2,3,4,5] (.cells rfl rfl (.keep (.pv ekB.rlst) (.keep .int (.keep .int .nil))) (.cells rfl rfl (.keep .nils (.keep .nils (.keep .int (.keep .nils (.keep .int (.keep .int (.keep .int (.keep .int .nil)))))))) (.cells rfl rfl (.slq rfl rfl (.slq rfl rfl (.keep .int (.slq rfl rfl (.keep .int (.keep .int (.keep .int (.keep .int .nil)))))))) (.same rfl (ekS.fref _ _) (.same rfl (ek_TWrite.fref _ _) (.same rfl (ek_TSeg.fref _ _) .nil)))))) rfl rfl rfl (.cons rfl (.ptr rfl) (.cons rfl (.ptr rfl) .nil)))⟩
  ·have h7:=iteBT h5 hb
   refine rl.done (RW.cond_t rfl (RW.skip (RW.seq (RW.blk ?_))))
   refine RW.sdrwF [⟨[.j 0,.j 0,.j 0,.j 0,.j 0,.j 0,.str [],.str [],.str []],0⟩] ?_
   refine rdraw.op rfl rfl (rdraw.op rfl rfl (rdraw.op rfl rfl ?_))
   obtain ⟨v6,e6,h8⟩:=bindS h7
   refine rdraw.ccallB rfl rfl rfl (CallW.embN (r0:=.agg (enc_TRec false v6.1)) (H':=[some ⟨[pvB B0_ o0_ x0.mB,.j v6.2.mI,.j v6.2.mH],0⟩,some ⟨[.nils,.nils,.j 0,.nils,.j 0,.j 0,.j 0,.j 0],0⟩,some ⟨[.sl 3 0 s3.2.2.2.2.2.2.2.2.1.length,.sl 4 0 s3.2.2.2.2.2.2.2.2.2.1.length,.j s3.2.2.2.1,.sl 5 0 s3.2.2.2.2.2.2.2.2.2.2.length,.j s3.2.2.2.2.1,.j s3.2.2.2.2.2.1,.j s3.2.2.2.2.2.2.1,.j s3.2.2.2.2.2.2.2.1],0⟩,some ⟨fl (encS true) s3.2.2.2.2.2.2.2.2.1,1⟩,some ⟨fl (enc_TWrite true) s3.2.2.2.2.2.2.2.2.2.1,2⟩,some ⟨fl (enc_TSeg true) s3.2.2.2.2.2.2.2.2.2.2,4⟩,some ⟨[.j 0,.j 0,.j 0,.j 0,.j 0,.j 0,.str [],.str [],.str []],0⟩]) [⟨[pvB B0_ o0_ x0.mB,.j v5.2.mI,.j v5.2.mH],0⟩] [⟨[pvB B0_ o0_ x0.mB,.j v6.2.mI,.j v6.2.mH],0⟩] [] [0] [pvB B0_ o0_ x0.mB] ok_spec_l06Rec (law_spec_l06Rec_w e6) (.cons rfl (fac (.pv ekB.rlst) (fac .int (fac .int fan))) (fac (.inr (.head _)) (fac (.inl .int) (fac (.inl .int) fan))) .nil) .nil (.blk 0 0 0 0 0 rfl rfl rfl rfl scalB .nil) rfl (.cons (.ptr rfl) .nil) (RtL.agg (.cons .int (.cons .int (.cons .int (.cons .int (.cons .int (.cons .str (.cons .str (.cons .str .nil))))))))) rfl ⟨(.skip rfl (.here (.rx rfl) (.here (.rx rfl) .nil))),?_⟩)
   refine rdraw.op rfl rfl ?_
   refine rdraw.flt rfl (.cons rfl .nil) ?_
   refine rdraw.chn rfl rfl ?_
   refine rdraw.done (RW.sreg (rl.run 2 rfl ?_))
   obtain ⟨v7,e7,h9⟩:=bindS h8
   refine rl.call rfl rfl rfl (CallW.val (r':=.bool v7) ok_spec_l09Fits (law_spec_l09Fits e7) (.cons (DFL.agg (.cons (.slq ekS rfl rfl) (.cons (.slq ek_TWrite rfl rfl) (.cons .int (.cons (.slq ek_TSeg rfl rfl) (.cons .int (.cons .int (.cons .int (.cons .int .nil))))))))) (.cons (DFL.agg (.cons .int (.cons .int (.cons .int (.cons .int (.cons .int (.cons .int (.cons .str (.cons .str (.cons .str .nil)))))))))) .nil)) .refl ?_)
   cases hb : v7
   ·have h10:=iteBF h9 hb
    refine rl.done ?_
    refine RW.kp [0,2,3,5,6,27] [(0,.ptr 0 0),(2,.ptr 1 0),(3,.ptr 2 0),(5,.j s3.1),(6,.ptr 6 0),(27,.bool false)] [some ⟨[pvB B0_ o0_ x0.mB,.j v6.2.mI,.j v6.2.mH],0⟩,some ⟨[.nils,.nils,.j 0,.nils,.j 0,.j 0,.j 0,.j 0],0⟩,some ⟨[.sl 3 0 s3.2.2.2.2.2.2.2.2.1.length,.sl 4 0 s3.2.2.2.2.2.2.2.2.2.1.length,.j s3.2.2.2.1,.sl 5 0 s3.2.2.2.2.2.2.2.2.2.2.length,.j s3.2.2.2.2.1,.j s3.2.2.2.2.2.1,.j s3.2.2.2.2.2.2.1,.j s3.2.2.2.2.2.2.2.1],0⟩,some ⟨fl (encS true) s3.2.2.2.2.2.2.2.2.1,1⟩,some ⟨fl (enc_TWrite true) s3.2.2.2.2.2.2.2.2.2.1,2⟩,some ⟨fl (enc_TSeg true) s3.2.2.2.2.2.2.2.2.2.2,4⟩,some ⟨[.j s3.2.2.2.2.2.1,.j v6.1.Kind,.j v6.1.Valid,.j v6.1.Uid,.j v6.1.Next,.j v6.1.Flags,.str v6.1.User,.str v6.1.Name,.str v6.1.Text],0⟩] rfl rfl ?_
    refine RW.cond_f rfl (RW.skip (RW.reg (rl.run 3 rfl (rl.done ?_))))
    cases h10
    exact hB3 _ rfl _ _ (Gh.renN [0,1,2,3,4,5] (.cells rfl rfl (.keep (.pv ekB.rlst) (.keep .int (.keep .int .nil))) (.cells rfl rfl (.keep .nils (.keep .nils (.keep .int (.keep .nils (.keep .int (.keep .int (.keep .int (.keep .int .nil)))))))) (.cells rfl rfl (.slq rfl rfl (.slq rfl rfl (.keep .int (.slq rfl rfl (.keep .int (.keep .int (.keep .int (.keep .int .nil)))))))) (.same rfl (ekS.fref _ _) (.same rfl (ek_TWrite.fref _ _) (.same rfl (ek_TSeg.fref _ _) .nil)))))) rfl rfl rfl (.cons rfl (.ptr rfl) (.cons rfl (.ptr rfl) (.cons rfl (.ptr rfl) (.cons rfl (.dat .int) .nil)))))
   ·have h11:=iteBT h9 hb
    refine rl.done ?_
    refine RW.kp [0,2,3,5,6,27] [(0,.ptr 0 0),(2,.ptr 1 0),(3,.ptr 2 0),(5,.j s3.1),(6,.ptr 6 0),(27,.bool true)] [some ⟨[pvB B0_ o0_ x0.mB,.j v6.2.mI,.j v6.2.mH],0⟩,some ⟨[.nils,.nils,.j 0,.nils,.j 0,.j 0,.j 0,.j 0],0⟩,some ⟨[.sl 3 0 s3.2.2.2.2.2.2.2.2.1.length,.sl 4 0 s3.2.2.2.2.2.2.2.2.2.1.length,.j s3.2.2.2.1,.sl 5 0 s3.2.2.2.2.2.2.2.2.2.2.length,.j s3.2.2.2.2.1,.j s3.2.2.2.2.2.1,.j s3.2.2.2.2.2.2.1,.j s3.2.2.2.2.2.2.2.1],0⟩,some ⟨fl (encS true) s3.2.2.2.2.2.2.2.2.1,1⟩,some ⟨fl (enc_TWrite true) s3.2.2.2.2.2.2.2.2.2.1,2⟩,some ⟨fl (enc_TSeg true) s3.2.2.2.2.2.2.2.2.2.2,4⟩,some ⟨[.j s3.2.2.2.2.2.1,.j v6.1.Kind,.j v6.1.Valid,.j v6.1.Uid,.j v6.1.Next,.j v6.1.Flags,.str v6.1.User,.str v6.1.Name,.str v6.1.Text],0⟩] rfl rfl ?_
    refine RW.cond_t rfl ?_
    refine RW.gh (Gh.absorbq (b:=2) (j:=0) (m:=3) rfl rfl rfl (by decide) (by decide) rfl (ekS.flen true _) (ekS.fown _)) ?_
    refine RW.gh (Gh.absorbq (b:=2) (j:=1) (m:=4) rfl rfl rfl (by decide) (by decide) rfl (ek_TWrite.flen true _) (ek_TWrite.fown _)) ?_
    refine RW.gh (Gh.absorbq (b:=2) (j:=3) (m:=5) rfl rfl rfl (by decide) (by decide) rfl (ek_TSeg.flen true _) (ek_TSeg.fown _)) ?_
    refine RW.reg (rl.run 1 rfl ?_)
    obtain ⟨v8,e8,h12⟩:=bindS h11
    refine rl.call rfl rfl rfl (CallW.embW (r0:=.bool v8.1) (H':=[some ⟨[pvB B0_ o0_ x0.mB,.j v6.2.mI,.j v6.2.mH],0⟩,some ⟨[.nils,.nils,.j 0,.nils,.j 0,.j 0,.j 0,.j 0],0⟩,some ⟨[.lst true 1 (fl (encS true) v8.2.Disk.Sectors) v8.2.Disk.Sectors.length,.lst true 2 (fl (enc_TWrite true) v8.2.Disk.Cache) v8.2.Disk.Cache.length,.j v8.2.Segs,.lst true 4 (fl (enc_TSeg true) v8.2.Used) v8.2.Used.length,.j v8.2.NextGen,.j v8.2.NextSeq,.j v8.2.Stamp,.j v8.2.NextValid],0⟩,none,none,none,some ⟨[.j s3.2.2.2.2.2.1,.j v6.1.Kind,.j v6.1.Valid,.j v6.1.Uid,.j v6.1.Next,.j v6.1.Flags,.str v6.1.User,.str v6.1.Name,.str v6.1.Text],0⟩]) [⟨[.lst true 1 (fl (encS true) s3.2.2.2.2.2.2.2.2.1) s3.2.2.2.2.2.2.2.2.1.length,.lst true 2 (fl (enc_TWrite true) s3.2.2.2.2.2.2.2.2.2.1) s3.2.2.2.2.2.2.2.2.2.1.length,.j s3.2.2.2.1,.lst true 4 (fl (enc_TSeg true) s3.2.2.2.2.2.2.2.2.2.2) s3.2.2.2.2.2.2.2.2.2.2.length,.j s3.2.2.2.2.1,.j s3.2.2.2.2.2.1,.j s3.2.2.2.2.2.2.1,.j s3.2.2.2.2.2.2.2.1],0⟩] [⟨[.lst true 1 (fl (encS true) v8.2.Disk.Sectors) v8.2.Disk.Sectors.length,.lst true 2 (fl (enc_TWrite true) v8.2.Disk.Cache) v8.2.Disk.Cache.length,.j v8.2.Segs,.lst true 4 (fl (enc_TSeg true) v8.2.Used) v8.2.Used.length,.j v8.2.NextGen,.j v8.2.NextSeq,.j v8.2.Stamp,.j v8.2.NextValid],0⟩] [2] ok_spec_l09Append (law_spec_l09Append_w2 e8) (.cons rfl (fac (ekS.rlst) (fac (ek_TWrite.rlst) (fac .int (fac (ek_TSeg.rlst) (fac .int (fac .int (fac .int (fac .int fan)))))))) (fac (.lst (ekS.fown _)) (fac (.lst (ek_TWrite.fown _)) (fac .int (fac (.lst (ek_TSeg.fown _)) (fac .int (fac .int (fac .int (fac .int fan)))))))) .nil) rfl (.cons (.ptr rfl) (.cons (RnL.agg (.cons (.dat .int) (.cons (.dat .int) (.cons (.dat .int) (.cons (.dat .int) (.cons (.dat .int) (.cons (.dat .int) (.cons (.dat .str) (.cons (.dat .str) (.cons (.dat .str) .nil)))))))))) (.cons (.dat .int) .nil))) .bool rfl rfl ?_)
    refine rl.done ?_
    refine RW.gh (Gh.expose (b:=2) (j:=0) rfl rfl (by decide) (ekS.fown _)) ?_
    refine RW.gh (Gh.expose (b:=2) (j:=1) rfl rfl (by decide) (ek_TWrite.fown _)) ?_
    refine RW.gh (Gh.expose (b:=2) (j:=3) rfl rfl (by decide) (ek_TSeg.fown _)) ?_
    refine RW.reg (rl.run 3 rfl (rl.done ?_))
    cases h12
    exact hB3 _ rfl _ _ (Gh.renN [0,1,2,7,8,9] (.cells rfl rfl (.keep (.pv ekB.rlst) (.keep .int (.keep .int .nil))) (.cells rfl rfl (.keep .nils (.keep .nils (.keep .int (.keep .nils (.keep .int (.keep .int (.keep .int (.keep .int .nil)))))))) (.cells rfl rfl (.slq rfl rfl (.slq rfl rfl (.keep .int (.slq rfl rfl (.keep .int (.keep .int (.keep .int (.keep .int .nil)))))))) (.same rfl (ekS.fref _ _) (.same rfl (ek_TWrite.fref _ _) (.same rfl (ek_TSeg.fref _ _) .nil)))))) rfl rfl rfl (.cons rfl (.ptr rfl) (.cons rfl (.ptr rfl) (.cons rfl (.ptr rfl) (.cons rfl (.dat .int) .nil)))))
 ·intro y4 hC
  subst hC
  refine RW.sreg (rl.run 2 rfl (rl.done (RW.ret ?_)))
  cases h4
  exact RRetM.mk [0,3,4,5] Gh.refl rfl (.cells rfl rfl (.keep (.pv ekB.rlst) (.keep .int (.keep .int .nil))) (.same rfl (ekS.fref _ _) (.same rfl (ek_TWrite.fref _ _) (.same rfl (ek_TSeg.fref _ _) .nil)))) rfl rfl rfl (RnL.agg (.cons (.slq rfl rfl) (.cons (.slq rfl rfl) (.cons (.dat .int) (.cons (.slq rfl rfl) (.cons (.dat .int) (.cons (.dat .int) (.cons (.dat .int) (.cons (.dat .int) .nil)))))))))
theorem law_spec_DrawLog {x0 : List Int} {r : TLog} (hF : F_spec_DrawLog x0 = some r) : PCalls Try.prog 9 [L_B x0] (.agg (enc_TLog true r)):=by
 refine PCalls.of_r k_spec_DrawLog rfl ?_
 unfold F_spec_DrawLog at hF
 refine RW.sreg (rl.run 1 rfl (rl.done ?_))
 refine RW.pin 0 rfl fun B1 o1=>?_
 refine RW.sreg (rl.run 1 rfl ?_)
 obtain ⟨v2,e2,h1⟩:=bindS hF
 refine rl.call rfl rfl rfl (CallW.embN (r0:=.ptr 1 0) (H':=[some ⟨[.nils,.nils,.j 0,.nils,.j 0,.j 0,.j 0,.j 0],0⟩,some ⟨[pvB B1 o1 x0,.j v2.mI,.j v2.mH],0⟩]) [] [] [⟨[pvB B1 o1 x0,.j v2.mI,.j v2.mH],0⟩] [] [pvB B1 o1 x0] ok_spec_l01New (law_spec_l01New_w e2) .nil (.cons (fac (.inr (.head _)) (fac (.inl .int) (fac (.inl .int) fan))) .nil) (.arg 0 rfl scalB .nil) rfl (.cons (.dat (.pv ekB.rlst)) .nil) (.ptr rfl) rfl ?_)
 obtain ⟨v3,e3,h2⟩:=bindS h1
 refine rl.call rfl rfl rfl (CallW.embN (r0:=.agg [.sl 2 0 v3.1.Disk.Sectors.length,.sl 3 0 v3.1.Disk.Cache.length,.j v3.1.Segs,.sl 4 0 v3.1.Used.length,.j v3.1.NextGen,.j v3.1.NextSeq,.j v3.1.Stamp,.j v3.1.NextValid]) (H':=[some ⟨[.nils,.nils,.j 0,.nils,.j 0,.j 0,.j 0,.j 0],0⟩,some ⟨[pvB B1 o1 x0,.j v3.2.mI,.j v3.2.mH],0⟩,some ⟨fl (encS true) v3.1.Disk.Sectors,1⟩,some ⟨fl (enc_TWrite true) v3.1.Disk.Cache,2⟩,some ⟨fl (enc_TSeg true) v3.1.Used,4⟩]) [⟨[pvB B1 o1 x0,.j v2.mI,.j v2.mH],0⟩] [⟨[pvB B1 o1 x0,.j v3.2.mI,.j v3.2.mH],0⟩] [⟨fl (encS true) v3.1.Disk.Sectors,1⟩,⟨fl (enc_TWrite true) v3.1.Disk.Cache,2⟩,⟨fl (enc_TSeg true) v3.1.Used,4⟩] [1] [pvB B1 o1 x0] ok_spec_l09Log (law_spec_l09Log_w e3) (.cons rfl (fac (.pv ekB.rlst) (fac .int (fac .int fan))) (fac (.inr (.head _)) (fac (.inl .int) (fac (.inl .int) fan))) .nil) (.own (ekS.fown _) (.own (ek_TWrite.fown _) (.own (ek_TSeg.fown _) .nil))) (.blk 0 1 0 0 0 rfl rfl rfl rfl scalB .nil) rfl (.cons (.ptr rfl) .nil) (RtL.agg (.cons (.sl rfl) (.cons (.sl rfl) (.cons .int (.cons (.sl rfl) (.cons .int (.cons .int (.cons .int (.cons .int .nil))))))))) rfl ?_)
 refine rl.run 1 rfl (rl.done (RW.ret ?_))
 cases h2
 exact RRet.mk rfl (OutL.agg (.cons (OutR.ownq ekS rfl rfl) rfl (.cons (OutR.ownq ek_TWrite rfl rfl) rfl (.cons .int rfl (.cons (OutR.ownq ek_TSeg rfl rfl) rfl (.cons .int rfl (.cons .int rfl (.cons .int rfl (.cons .int rfl .nil))))))))) (by first | decide | simp)
set_option maxHeartbeats 2000000 in
theorem law_laws_FnChecksTorn {x0 : List Int} {r : Bool} (hF : F_laws_FnChecksTorn x0 = some r) : PCalls Try.prog 4 [L_B x0] (.bool r):=by
 refine PCalls.of_r k_laws_FnChecksTorn rfl ?_
 unfold F_laws_FnChecksTorn at hF
 refine RW.sreg (rl.run 1 rfl (rl.done (RW.seq (RW.sreg (rl.run 1 rfl ?_)))))
 obtain ⟨v1,e1,h1⟩:=bindS hF
 refine rl.call rfl rfl rfl (CallW.val (r':=.bool v1) ok_laws_big (law_laws_big e1) (.cons (.lst ekB) .nil) .refl ?_)
 cases hb : v1
 ·have h2:=iteBF h1 hb
  refine rl.done (RW.cond_f rfl (RW.skip (RW.sreg (rl.run 1 rfl ?_))))
  obtain ⟨v2,e2,h3⟩:=bindS h2
  refine rl.call rfl rfl rfl (CallW.val (r':=.agg (enc_TLog false v2)) ok_spec_DrawLog (law_spec_DrawLog e2) (.cons (.lst ekB) .nil) (ek_TLog.flag _).agg ?_)
  refine rl.run 2 rfl (rl.done (RW.sreg (rl.run 1 rfl ?_)))
  obtain ⟨v3,e3,h4⟩:=bindS h3
  refine rl.call rfl rfl rfl (CallW.val (r':=.agg (enc_TCheck false v3)) ok_spec_CheckOf (law_spec_CheckOf e3) (.cons (DFL.agg (.cons (.lst ekS) (.cons (.lst ek_TWrite) (.cons .int (.cons (.lst ek_TSeg) (.cons .int (.cons .int (.cons .int (.cons .int .nil))))))))) .nil) (ek_TCheck.flag _).agg ?_)
  refine rl.run 2 rfl (rl.done (RW.sreg (rl.run 1 rfl ?_)))
  obtain ⟨v4,e4,h5⟩:=bindS h4
  refine rl.call rfl rfl rfl (CallW.val (r':=.tup [.str v4.1,.bool v4.2]) ok_spec_CheckText (law_spec_CheckText e4) (.cons (DFL.agg (.cons .int (.cons .int (.cons .int (.cons .int (.cons (.lst ek_TRef) .nil)))))) .nil) (FlL.tup (.cons .refl (.cons .refl .nil))) ?_)
  refine rl.run 5 rfl (rl.done ?_)
  refine RW.kp [0,3,4,5] [(0,L_B x0),(3,.ptr 0 0),(4,.ptr 1 0),(5,.str v4.1)] [some ⟨[L_S v2.Disk.Sectors,L_TWrite v2.Disk.Cache,.j v2.Segs,L_TSeg v2.Used,.j v2.NextGen,.j v2.NextSeq,.j v2.Stamp,.j v2.NextValid],0⟩,some ⟨[.j v3.Stamp,.j v3.NextGen,.j v3.NextSeq,.j v3.NextValid,L_TRef v3.Refs],0⟩] rfl rfl ?_
  refine RW.sreg (rl.run 7 rfl ?_)
  obtain ⟨v5,e5,h6⟩:=bindS h5
  refine rl.call rfl rfl rfl (CallW.val (r':=.tup [.agg (enc_TDisk false v5.1),.bool v5.2]) ok_spec_WriteBytes (law_spec_WriteBytes e5) (.cons (DFL.agg (.cons (.lst ekS) (.cons (.lst ek_TWrite) .nil))) (.cons .int (.cons .int (.cons .str .nil)))) (FlL.tup (.cons (ek_TDisk.flag _).agg (.cons .refl .nil))) ?_)
  refine rl.run 6 rfl (rl.done ?_)
  refine RW.kp [0,3,4,5,7,8] [(0,L_B x0),(3,.ptr 0 0),(4,.ptr 1 0),(5,.str v4.1),(7,.ptr 2 0),(8,.bool v5.2)] [some ⟨[L_S v2.Disk.Sectors,L_TWrite v2.Disk.Cache,.j v2.Segs,L_TSeg v2.Used,.j v2.NextGen,.j v2.NextSeq,.j v2.Stamp,.j v2.NextValid],0⟩,some ⟨[.j v3.Stamp,.j v3.NextGen,.j v3.NextSeq,.j v3.NextValid,L_TRef v3.Refs],0⟩,some ⟨[L_S v5.1.Sectors,L_TWrite v5.1.Cache],0⟩] rfl rfl ?_
  refine RW.sreg (rl.run 1 rfl ?_)
  obtain ⟨v6,e6,h7⟩:=bindS h6
  refine rl.call rfl rfl rfl (CallW.val (r':=L_I v6) ok_spec_DrawPlaces (law_spec_DrawPlaces e6) (.cons (.lst ekB) .nil) (ekI.fflag _).lst ?_)
  refine rl.run 1 rfl (rl.done (RW.sdrw (rdraw.op rfl rfl (rdraw.op rfl rfl ?_))))
  obtain ⟨v7,e7,h8⟩:=bindS h7
  refine rdraw.call rfl rfl rfl (CallW.val (r':=L_I v7) ok_spec_DrawKeep (law_spec_DrawKeep e7) (.cons (.lst ekB) .nil) (ekI.fflag _).lst ⟨rfl,?_⟩)
  refine rdraw.op rfl rfl ?_
  obtain ⟨v8,e8,h9⟩:=bindS h8
  refine rdraw.op rfl (x_ia_lst (enc:=encI) (o:=false) rfl rfl rfl e8) ?_
  refine rdraw.op rfl (x_ld_el (off':=0) ekI rfl e8 rfl rfl rfl) ?_
  obtain ⟨v9,e9,h10⟩:=bindS h9
  refine rdraw.call rfl rfl rfl (CallW.val (r':=.agg (enc_TDisk false v9)) ok_impl_CrashDisk (law_impl_CrashDisk e9) (.cons (DFL.agg (.cons (.lst ekS) (.cons (.lst ek_TWrite) .nil))) (.cons (.lst ekI) (.cons .int .nil))) (ek_TDisk.flag _).agg ⟨rfl,?_⟩)
  refine rdraw.chnB rfl rfl (.here (.cl rfl rfl (CallW.val (r':=.agg (enc_TDisk false v9)) ok_impl_CrashDisk (law_impl_CrashDisk e9) (.cons (DFL.agg (.cons (.lst ekS) (.cons (.lst ek_TWrite) .nil))) (.cons (.lst ekI) (.cons .int .nil))) (ek_TDisk.flag _).agg ⟨rfl,rfl⟩)) (.here (.rx (x_ld_el (off':=0) ekI rfl e8 rfl rfl rfl)) (.here (.rx (x_ia_lst (enc:=encI) (o:=false) rfl rfl rfl e8)) (.here (.rx rfl) (.here (.cl rfl rfl (CallW.val (r':=L_I v7) ok_spec_DrawKeep (law_spec_DrawKeep e7) (.cons (.lst ekB) .nil) (ekI.fflag _).lst ⟨rfl,rfl⟩)) (.here (.rx rfl) (.here (.rx rfl) .nil))))))) ?_
  refine rdraw.chn rfl rfl ?_
  refine rdraw.done ?_
  refine RW.kp [3,4,5,8,10] [(3,.ptr 0 0),(4,.ptr 1 0),(5,.str v4.1),(8,.bool v5.2),(10,.ptr 3 0)] [some ⟨[L_S v2.Disk.Sectors,L_TWrite v2.Disk.Cache,.j v2.Segs,L_TSeg v2.Used,.j v2.NextGen,.j v2.NextSeq,.j v2.Stamp,.j v2.NextValid],0⟩,some ⟨[.j v3.Stamp,.j v3.NextGen,.j v3.NextSeq,.j v3.NextValid,L_TRef v3.Refs],0⟩,some ⟨[L_S v5.1.Sectors,L_TWrite v5.1.Cache],0⟩,some ⟨[L_S v9.Sectors,L_TWrite v9.Cache],0⟩] rfl rfl ?_
  refine RW.sreg (rl.run 1 rfl ?_)
  obtain ⟨v10,e10,h11⟩:=bindS h10
  refine rl.call rfl rfl rfl (CallW.val (r':=.tup [.agg (enc_TCheck false v10.1),.bool v10.2]) ok_impl_NewestCheck (law_impl_NewestCheck e10) (.cons (DFL.agg (.cons (.lst ekS) (.cons (.lst ek_TWrite) .nil))) .nil) (FlL.tup (.cons (ek_TCheck.flag _).agg (.cons .refl .nil))) ?_)
  refine rl.run 6 rfl (rl.done (RW.sreg (rl.run 2 rfl ?_)))
  obtain ⟨v11,e11,h12⟩:=bindS h11
  refine rl.call rfl rfl rfl (CallW.val (r':=.tup [.agg (enc_TCheck false v11.1),.bool v11.2]) ok_spec_NewestCheck (law_spec_NewestCheck e11) (.cons (DFL.agg (.cons (.lst ekS) (.cons (.lst ek_TWrite) .nil))) .nil) (FlL.tup (.cons (ek_TCheck.flag _).agg (.cons .refl .nil))) ?_)
  refine rl.run 6 rfl (rl.done ?_)
  refine RW.kp [4,5,8,10,11,12,13] [(4,.ptr 1 0),(5,.str v4.1),(8,.bool v5.2),(10,.ptr 3 0),(11,.ptr 4 0),(12,.bool v10.2),(13,.ptr 5 0)] [some ⟨[L_S v2.Disk.Sectors,L_TWrite v2.Disk.Cache,.j v2.Segs,L_TSeg v2.Used,.j v2.NextGen,.j v2.NextSeq,.j v2.Stamp,.j v2.NextValid],0⟩,some ⟨[.j v3.Stamp,.j v3.NextGen,.j v3.NextSeq,.j v3.NextValid,L_TRef v3.Refs],0⟩,some ⟨[L_S v5.1.Sectors,L_TWrite v5.1.Cache],0⟩,some ⟨[L_S v9.Sectors,L_TWrite v9.Cache],0⟩,some ⟨[.j v10.1.Stamp,.j v10.1.NextGen,.j v10.1.NextSeq,.j v10.1.NextValid,L_TRef v10.1.Refs],0⟩,some ⟨[.j v11.1.Stamp,.j v11.1.NextGen,.j v11.1.NextSeq,.j v11.1.NextValid,L_TRef v11.1.Refs],0⟩] rfl rfl ?_
  refine RW.sreg (rl.run 1 rfl ?_)
  obtain ⟨v12,e12,h13⟩:=bindS h12
  refine rl.call rfl rfl rfl (CallW.val (r':=.tup [.str v12.1,.bool v12.2]) ok_spec_CheckText (law_spec_CheckText e12) (.cons (DFL.agg (.cons .int (.cons .int (.cons .int (.cons .int (.cons (.lst ek_TRef) .nil)))))) .nil) (FlL.tup (.cons .refl (.cons .refl .nil))) ?_)
  refine rl.run 5 rfl (rl.done (RW.sreg (rl.run 1 rfl ?_)))
  obtain ⟨v13,e13,h14⟩:=bindS h13
  refine rl.call rfl rfl rfl (CallW.val (r':=.tup [.str v13.1,.bool v13.2]) ok_spec_CheckText (law_spec_CheckText e13) (.cons (DFL.agg (.cons .int (.cons .int (.cons .int (.cons .int (.cons (.lst ek_TRef) .nil)))))) .nil) (FlL.tup (.cons .refl (.cons .refl .nil))) ?_)
  refine rl.run 5 rfl (rl.done ?_)
  refine RW.kp [4,5,8,10,12,15,17] [(4,.ptr 1 0),(5,.str v4.1),(8,.bool v5.2),(10,.ptr 3 0),(12,.bool v10.2),(15,.str v12.1),(17,.str v13.1)] [some ⟨[L_S v2.Disk.Sectors,L_TWrite v2.Disk.Cache,.j v2.Segs,L_TSeg v2.Used,.j v2.NextGen,.j v2.NextSeq,.j v2.Stamp,.j v2.NextValid],0⟩,some ⟨[.j v3.Stamp,.j v3.NextGen,.j v3.NextSeq,.j v3.NextValid,L_TRef v3.Refs],0⟩,some ⟨[L_S v5.1.Sectors,L_TWrite v5.1.Cache],0⟩,some ⟨[L_S v9.Sectors,L_TWrite v9.Cache],0⟩,some ⟨[.j v10.1.Stamp,.j v10.1.NextGen,.j v10.1.NextSeq,.j v10.1.NextValid,L_TRef v10.1.Refs],0⟩,some ⟨[.j v11.1.Stamp,.j v11.1.NextGen,.j v11.1.NextSeq,.j v11.1.NextValid,L_TRef v11.1.Refs],0⟩] rfl rfl ?_
  refine RW.sreg (rl.run 5 rfl ?_)
  obtain ⟨v14,e14,h15⟩:=bindS h14
  refine rl.call rfl rfl rfl (CallW.val (r':=.tup [.str v14.1,.bool v14.2]) ok_spec_SectorText (law_spec_SectorText e14) (.cons (DFL.agg (.cons (.lst ekS) (.cons (.lst ek_TWrite) .nil))) (.cons .int (.cons .int .nil))) (FlL.tup (.cons .refl (.cons .refl .nil))) ?_)
  refine rl.run 5 rfl (rl.done ?_)
  refine RW.kp [5,8,12,15,17,19] [(5,.str v4.1),(8,.bool v5.2),(12,.bool v10.2),(15,.str v12.1),(17,.str v13.1),(19,.str v14.1)] [some ⟨[L_S v2.Disk.Sectors,L_TWrite v2.Disk.Cache,.j v2.Segs,L_TSeg v2.Used,.j v2.NextGen,.j v2.NextSeq,.j v2.Stamp,.j v2.NextValid],0⟩,some ⟨[.j v3.Stamp,.j v3.NextGen,.j v3.NextSeq,.j v3.NextValid,L_TRef v3.Refs],0⟩,some ⟨[L_S v5.1.Sectors,L_TWrite v5.1.Cache],0⟩,some ⟨[L_S v9.Sectors,L_TWrite v9.Cache],0⟩,some ⟨[.j v10.1.Stamp,.j v10.1.NextGen,.j v10.1.NextSeq,.j v10.1.NextValid,L_TRef v10.1.Refs],0⟩,some ⟨[.j v11.1.Stamp,.j v11.1.NextGen,.j v11.1.NextSeq,.j v11.1.NextValid,L_TRef v11.1.Refs],0⟩] rfl rfl ?_
  refine RW.sreg (rl.run 1 rfl ?_)
  obtain ⟨v15,e15,h16⟩:=bindS h15
  refine rl.call rfl rfl rfl (CallW.val (r':=.tup [.agg (enc_TCheck false v15.1),.bool v15.2]) ok_spec_ReadCheck (law_spec_ReadCheck e15) (.cons .str .nil) (FlL.tup (.cons (ek_TCheck.flag _).agg (.cons .refl .nil))) ?_)
  refine rl.run 6 rfl (rl.done (RW.sreg (rl.run 1 rfl ?_)))
  obtain ⟨v16,e16,h17⟩:=bindS h16
  refine rl.call rfl rfl rfl (CallW.val (r':=.tup [.str v16.1,.bool v16.2]) ok_spec_CheckText (law_spec_CheckText e16) (.cons (DFL.agg (.cons .int (.cons .int (.cons .int (.cons .int (.cons (.lst ek_TRef) .nil)))))) .nil) (FlL.tup (.cons .refl (.cons .refl .nil))) ?_)
  refine rl.run 5 rfl (rl.done ?_)
  refine RW.kp [5,8,12,15,17,22,23] [(5,.str v4.1),(8,.bool v5.2),(12,.bool v10.2),(15,.str v12.1),(17,.str v13.1),(22,.bool v15.2),(23,.str v16.1)] [some ⟨[L_S v2.Disk.Sectors,L_TWrite v2.Disk.Cache,.j v2.Segs,L_TSeg v2.Used,.j v2.NextGen,.j v2.NextSeq,.j v2.Stamp,.j v2.NextValid],0⟩,some ⟨[.j v3.Stamp,.j v3.NextGen,.j v3.NextSeq,.j v3.NextValid,L_TRef v3.Refs],0⟩,some ⟨[L_S v5.1.Sectors,L_TWrite v5.1.Cache],0⟩,some ⟨[L_S v9.Sectors,L_TWrite v9.Cache],0⟩,some ⟨[.j v10.1.Stamp,.j v10.1.NextGen,.j v10.1.NextSeq,.j v10.1.NextValid,L_TRef v10.1.Refs],0⟩,some ⟨[.j v11.1.Stamp,.j v11.1.NextGen,.j v11.1.NextSeq,.j v11.1.NextValid,L_TRef v11.1.Refs],0⟩,some ⟨[.j v15.1.Stamp,.j v15.1.NextGen,.j v15.1.NextSeq,.j v15.1.NextValid,L_TRef v15.1.Refs],0⟩] rfl rfl ?_
  refine RW.seq ?_
  obtain ⟨y17,ey17,h18⟩:=bindS h17
  refine RW.cutq (σ:=Bool) (fun y17=>[(2,.bool y17)]) (fun y17=>[]) (fun y=>y17 = y) (fun _ _ _ _ g h=>RW.gh g h) ?_ ?_
  ·refine RW.reg ?_
   refine rl.run 2 rfl ?_
   cases hb : v5.2
   ·have h19:=iteBF ey17 hb
    refine rl.run 21 rfl (rl.done ?_)
    cases h19
    exact ⟨_,rfl,(Gh.ren0 [] .nil rfl (.cons rfl (.dat .bool) .nil))⟩
   ·have h20:=iteBT ey17 hb
    refine rl.run 3 rfl ?_
    cases hb : v10.2
    ·have h21:=iteBF h20 hb
     refine rl.run 18 rfl (rl.done ?_)
     cases h21
     exact ⟨_,rfl,(Gh.ren0 [] .nil rfl (.cons rfl (.dat .bool) .nil))⟩
    ·have h22:=iteBT h20 hb
     refine rl.run 2 rfl ?_
     refine rl.gen rfl rfl fun b hb=>?_
     cases b
     ·have h23:=iteBF h22 hb
      refine rl.run 3 rfl ?_
      refine rl.gen rfl rfl fun b hb=>?_
      cases b
      ·have h24:=iteBF h23 hb
       refine rl.run 4 rfl ?_
       cases hb : v15.2
       ·have h25:=iteBF h24 hb
        refine rl.run 7 rfl (rl.done ?_)
        cases h25
        exact ⟨_,rfl,(Gh.ren0 [] .nil rfl (.cons rfl (.dat .bool) .nil))⟩
       ·have h26:=iteBT h24 hb
        refine rl.run 7 rfl (rl.done ?_)
        cases h26
        exact ⟨_,rfl,(Gh.ren0 [] .nil rfl (.cons rfl (.dat .bool) .nil))⟩
      ·have h27:=iteBT h23 hb
       refine rl.run 11 rfl (rl.done ?_)
       cases h27
       exact ⟨_,rfl,(Gh.ren0 [] .nil rfl (.cons rfl (.dat .bool) .nil))⟩
     ·have h28:=iteBT h22 hb
      refine rl.run 15 rfl (rl.done ?_)
      cases h28
      exact ⟨_,rfl,(Gh.ren0 [] .nil rfl (.cons rfl (.dat .bool) .nil))⟩
  ·intro y hC
   subst hC
   refine RW.ret ?_
   cases h18
   exact RRet.mk rfl .bool (by first | decide | simp)
 ·have h29:=iteBT h1 hb
  refine rl.done (RW.cond_t rfl (RW.sreg (rl.run 1 rfl (rl.done (RW.ret ?_)))))
  cases h29
  exact RRet.mk rfl .bool (by first | decide | simp)
end Go.Proofs.Ytldndhdohlfpgaa.V
