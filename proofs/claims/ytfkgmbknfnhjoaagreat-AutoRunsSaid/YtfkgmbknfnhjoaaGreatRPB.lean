/- Bundle PB. -/
import Derived.Test.YtfkgmbknfnhjoaaGreatRPA
set_option maxHeartbeats 8000000
namespace Go.Proofs.YtfkgmbknfnhjoaaGreat
open Lib (hid)
open Go.RowKit
set_option linter.ambiguousOpen false
open Ne (Rl Opt RulesAt areB)
set_option linter.unusedSimpArgs false
set_option linter.unusedVariables false
theorem conf_ref (A:Option Addr) (n c:Nat) (R:List Rl) (mc mt mf wt:Int) (w:World) (B:Nat) (hB:B≤w.heap.size) (hR:RulesAt w B A R) (hn:n=R.length) (hl:n≤1000000):
  Calls Tryz.prog 13 #[.agg #[.slice A n c,.int .i64 mc,.int .i64 mt,.int .i64 mf,.int .i64 wt]] w fun x w'=>x=.returned (.bool (confB ⟨R,mc,mt,mf,wt⟩))∧Below w.heap.size w w':=by
 have HB:=hid hB
 have HR:=hid hR
 have HN:=hid hn
 clear hB hR hn
 by_cases h0:areB R=true
 ·by_cases h1:1≤mc
  ·by_cases h2:mc≤1000
   ·by_cases h3:1≤mt
    ·by_cases h4:mt≤1000
     ·by_cases h5:0≤mf
      ·by_cases h6:mf≤1000
       ·by_cases h7:1≤wt
        ·by_cases h8:wt≤1048576
         ·have HV:=hid (show confB ⟨R,mc,mt,mf,wt⟩=true by simp[confB,inB,h0,h1,h2,h3,h4,h5,h6,h7,h8])
          have HK:=hid h0
          clear h0
          go_enter Tryz.func13,Tryz.ntmps13
          go_wp2_with (go_at_call 48;refine(Ne.are_ref A n c R _ B (by have:=HB.out;simp;omega) (by exact HR.out.keep (by have:=HB.out;exact bel)) HN.out hl).mono ?_;rw[HK.out];rintro e w1 ⟨rfl,hb⟩;obtain⟨xs,d,rfl⟩:=ext_of hb;clear hb)
          go_ret
          exact⟨by rw[HV.out];rfl,by exact bel⟩
         ·have HV:=hid (show confB ⟨R,mc,mt,mf,wt⟩=false by simp[confB,inB,h0,h1,h2,h3,h4,h5,h6,h7,h8])
          have HK:=hid h0
          clear h0
          have hk:decide (wt≤1048576)=false:=by simp;omega
          clear h8
          go_enter Tryz.func13,Tryz.ntmps13
          go_wp2_with (go_at_call 48;refine(Ne.are_ref A n c R _ B (by have:=HB.out;simp;omega) (by exact HR.out.keep (by have:=HB.out;exact bel)) HN.out hl).mono ?_;rw[HK.out];rintro e w1 ⟨rfl,hb⟩;obtain⟨xs,d,rfl⟩:=ext_of hb;clear hb)
          go_ret
          exact⟨by rw[HV.out];rfl,by exact bel⟩
        ·have HV:=hid (show confB ⟨R,mc,mt,mf,wt⟩=false by simp[confB,inB,h0,h1,h2,h3,h4,h5,h6,h7])
         have HK:=hid h0
         clear h0
         have hk:decide (1≤wt)=false:=by simp;omega
         clear h7
         go_enter Tryz.func13,Tryz.ntmps13
         go_wp2_with (go_at_call 48;refine(Ne.are_ref A n c R _ B (by have:=HB.out;simp;omega) (by exact HR.out.keep (by have:=HB.out;exact bel)) HN.out hl).mono ?_;rw[HK.out];rintro e w1 ⟨rfl,hb⟩;obtain⟨xs,d,rfl⟩:=ext_of hb;clear hb)
         go_ret
         exact⟨by rw[HV.out];rfl,by exact bel⟩
       ·have HV:=hid (show confB ⟨R,mc,mt,mf,wt⟩=false by simp[confB,inB,h0,h1,h2,h3,h4,h5,h6])
        have HK:=hid h0
        clear h0
        have hk:decide (mf≤1000)=false:=by simp;omega
        clear h6
        go_enter Tryz.func13,Tryz.ntmps13
        go_wp2_with (go_at_call 48;refine(Ne.are_ref A n c R _ B (by have:=HB.out;simp;omega) (by exact HR.out.keep (by have:=HB.out;exact bel)) HN.out hl).mono ?_;rw[HK.out];rintro e w1 ⟨rfl,hb⟩;obtain⟨xs,d,rfl⟩:=ext_of hb;clear hb)
        go_ret
        exact⟨by rw[HV.out];rfl,by exact bel⟩
      ·have HV:=hid (show confB ⟨R,mc,mt,mf,wt⟩=false by simp[confB,inB,h0,h1,h2,h3,h4,h5])
       have HK:=hid h0
       clear h0
       have hk:decide (0≤mf)=false:=by simp;omega
       clear h5
       go_enter Tryz.func13,Tryz.ntmps13
       go_wp2_with (go_at_call 48;refine(Ne.are_ref A n c R _ B (by have:=HB.out;simp;omega) (by exact HR.out.keep (by have:=HB.out;exact bel)) HN.out hl).mono ?_;rw[HK.out];rintro e w1 ⟨rfl,hb⟩;obtain⟨xs,d,rfl⟩:=ext_of hb;clear hb)
       go_ret
       exact⟨by rw[HV.out];rfl,by exact bel⟩
     ·have HV:=hid (show confB ⟨R,mc,mt,mf,wt⟩=false by simp[confB,inB,h0,h1,h2,h3,h4])
      have HK:=hid h0
      clear h0
      have hk:decide (mt≤1000)=false:=by simp;omega
      clear h4
      go_enter Tryz.func13,Tryz.ntmps13
      go_wp2_with (go_at_call 48;refine(Ne.are_ref A n c R _ B (by have:=HB.out;simp;omega) (by exact HR.out.keep (by have:=HB.out;exact bel)) HN.out hl).mono ?_;rw[HK.out];rintro e w1 ⟨rfl,hb⟩;obtain⟨xs,d,rfl⟩:=ext_of hb;clear hb)
      go_ret
      exact⟨by rw[HV.out];rfl,by exact bel⟩
    ·have HV:=hid (show confB ⟨R,mc,mt,mf,wt⟩=false by simp[confB,inB,h0,h1,h2,h3])
     have HK:=hid h0
     clear h0
     have hk:decide (1≤mt)=false:=by simp;omega
     clear h3
     go_enter Tryz.func13,Tryz.ntmps13
     go_wp2_with (go_at_call 48;refine(Ne.are_ref A n c R _ B (by have:=HB.out;simp;omega) (by exact HR.out.keep (by have:=HB.out;exact bel)) HN.out hl).mono ?_;rw[HK.out];rintro e w1 ⟨rfl,hb⟩;obtain⟨xs,d,rfl⟩:=ext_of hb;clear hb)
     go_ret
     exact⟨by rw[HV.out];rfl,by exact bel⟩
   ·have HV:=hid (show confB ⟨R,mc,mt,mf,wt⟩=false by simp[confB,inB,h0,h1,h2])
    have HK:=hid h0
    clear h0
    have hk:decide (mc≤1000)=false:=by simp;omega
    clear h2
    go_enter Tryz.func13,Tryz.ntmps13
    go_wp2_with (go_at_call 48;refine(Ne.are_ref A n c R _ B (by have:=HB.out;simp;omega) (by exact HR.out.keep (by have:=HB.out;exact bel)) HN.out hl).mono ?_;rw[HK.out];rintro e w1 ⟨rfl,hb⟩;obtain⟨xs,d,rfl⟩:=ext_of hb;clear hb)
    go_ret
    exact⟨by rw[HV.out];rfl,by exact bel⟩
  ·have HV:=hid (show confB ⟨R,mc,mt,mf,wt⟩=false by simp[confB,inB,h0,h1])
   have HK:=hid h0
   clear h0
   have hk:decide (1≤mc)=false:=by simp;omega
   clear h1
   go_enter Tryz.func13,Tryz.ntmps13
   go_wp2_with (go_at_call 48;refine(Ne.are_ref A n c R _ B (by have:=HB.out;simp;omega) (by exact HR.out.keep (by have:=HB.out;exact bel)) HN.out hl).mono ?_;rw[HK.out];rintro e w1 ⟨rfl,hb⟩;obtain⟨xs,d,rfl⟩:=ext_of hb;clear hb)
   go_ret
   exact⟨by rw[HV.out];rfl,by exact bel⟩
 ·replace h0:areB R=false:=by simpa using h0
  have HV:=hid (show confB ⟨R,mc,mt,mf,wt⟩=false by simp[confB,inB,h0])
  have HK:=hid h0
  clear h0
  go_enter Tryz.func13,Tryz.ntmps13
  go_wp2_with (go_at_call 48;refine(Ne.are_ref A n c R _ B (by have:=HB.out;simp;omega) (by exact HR.out.keep (by have:=HB.out;exact bel)) HN.out hl).mono ?_;rw[HK.out];rintro e w1 ⟨rfl,hb⟩;obtain⟨xs,d,rfl⟩:=ext_of hb;clear hb)
  go_ret
  exact⟨by rw[HV.out];rfl,by exact bel⟩
theorem is_ref (st id req cnt tim nak:Int) (A:Option Addr) (n c:Nat) (E:List Ent) (L:List Opt) (hL:E.map Ent.o=L) (w:World) (B:Nat) (hB:B≤w.heap.size) (hE:OptsAt w B A E) (hn:n=E.length):
  Calls Tryz.prog 24 #[.agg #[.int .i64 st,.int .i64 id,.int .i64 req,.slice A n c,.int .i64 cnt,.int .i64 tim,.int .i64 nak]] w fun x w'=>x=.returned (.bool (isB ⟨st,id,req,L,cnt,tim,nak⟩))∧Below w.heap.size w w':=by
 have HB:=hid hB
 have HE:=hid hE
 have HN:=hid hn
 have HL:=hid hL
 clear hB hE hn hL
 by_cases h1:0≤st
 ·by_cases h2:st≤9
  ·by_cases h3:0≤id
   ·by_cases h4:id≤255
    ·by_cases h5:0≤req
     ·by_cases h6:req≤255
      ·by_cases h7:0≤cnt
       ·by_cases h8:cnt≤1000
        ·by_cases h9:0≤nak
         ·by_cases h10:nak≤1000
          ·obtain⟨⟨eb,ee⟩,henc⟩: ∃y,Op.encR L=y:=⟨_,rfl⟩
           have HENC:=hid henc
           clear henc
           by_cases hee:ee=0
           ·subst hee
            cases htm:Fs.timedB st
            ·have HTM:=hid htm
             by_cases ht0:tim=0
             ·have HV:=hid (show isB ⟨st,id,req,L,cnt,tim,nak⟩=true by simp[isB,numsB,timB,inB,h1,h2,h3,h4,h5,h6,h7,h8,h9,h10,HENC.out,htm,ht0])
              clear htm
              go_enter Tryz.func24,Tryz.ntmps24
              go_wp2_with (first|(go_at_call 18;refine(Op.renc_any A n c E _ B (by have:=HB.out;simp;omega) (by exact HE.out.keep (by have:=HB.out;exact bel)) HN.out).mono ?_;rw[HL.out];unfold Op.EncP;rw[HENC.out];rintro e w2 ⟨v,rfl,hb,-⟩;obtain⟨xs2,d2,rfl⟩:=ext_of hb;clear hb)|(go_at_call 57;refine(Fs.timed_r _ _).mono ?_;rw[HTM.out];rintro e w1 ⟨rfl,rfl⟩))
              go_ret
              exact⟨by rw[HV.out];rfl,by exact bel⟩
             ·have HV:=hid (show isB ⟨st,id,req,L,cnt,tim,nak⟩=false by simp[isB,numsB,timB,inB,h1,h2,h3,h4,h5,h6,h7,h8,h9,h10,HENC.out,htm,ht0])
              have ht1:(tim==0)=false:=by simpa using ht0
              clear htm ht0
              go_enter Tryz.func24,Tryz.ntmps24
              go_wp2_with (first|(go_at_call 18;refine(Op.renc_any A n c E _ B (by have:=HB.out;simp;omega) (by exact HE.out.keep (by have:=HB.out;exact bel)) HN.out).mono ?_;rw[HL.out];unfold Op.EncP;rw[HENC.out];rintro e w2 ⟨v,rfl,hb,-⟩;obtain⟨xs2,d2,rfl⟩:=ext_of hb;clear hb)|(go_at_call 57;refine(Fs.timed_r _ _).mono ?_;rw[HTM.out];rintro e w1 ⟨rfl,rfl⟩))
              go_ret
              exact⟨by rw[HV.out];rfl,by exact bel⟩
            ·have HTM:=hid htm
             by_cases t1:1≤tim
             ·by_cases t2:tim≤1099512676352
              ·have HV:=hid (show isB ⟨st,id,req,L,cnt,tim,nak⟩=true by simp[isB,numsB,timB,inB,h1,h2,h3,h4,h5,h6,h7,h8,h9,h10,HENC.out,htm,t1,t2])
               clear htm
               go_enter Tryz.func24,Tryz.ntmps24
               go_wp2_with (first|(go_at_call 18;refine(Op.renc_any A n c E _ B (by have:=HB.out;simp;omega) (by exact HE.out.keep (by have:=HB.out;exact bel)) HN.out).mono ?_;rw[HL.out];unfold Op.EncP;rw[HENC.out];rintro e w2 ⟨v,rfl,hb,-⟩;obtain⟨xs2,d2,rfl⟩:=ext_of hb;clear hb)|(go_at_call 57;refine(Fs.timed_r _ _).mono ?_;rw[HTM.out];rintro e w1 ⟨rfl,rfl⟩))
               go_ret
               exact⟨by rw[HV.out];rfl,by exact bel⟩
              ·have HV:=hid (show isB ⟨st,id,req,L,cnt,tim,nak⟩=false by simp[isB,numsB,timB,inB,h1,h2,h3,h4,h5,h6,h7,h8,h9,h10,HENC.out,htm,t1,t2])
               have hk:decide (tim≤1099512676352)=false:=by simp;omega
               clear htm t2
               go_enter Tryz.func24,Tryz.ntmps24
               go_wp2_with (first|(go_at_call 18;refine(Op.renc_any A n c E _ B (by have:=HB.out;simp;omega) (by exact HE.out.keep (by have:=HB.out;exact bel)) HN.out).mono ?_;rw[HL.out];unfold Op.EncP;rw[HENC.out];rintro e w2 ⟨v,rfl,hb,-⟩;obtain⟨xs2,d2,rfl⟩:=ext_of hb;clear hb)|(go_at_call 57;refine(Fs.timed_r _ _).mono ?_;rw[HTM.out];rintro e w1 ⟨rfl,rfl⟩))
               go_ret
               exact⟨by rw[HV.out];rfl,by exact bel⟩
             ·have HV:=hid (show isB ⟨st,id,req,L,cnt,tim,nak⟩=false by simp[isB,numsB,timB,inB,h1,h2,h3,h4,h5,h6,h7,h8,h9,h10,HENC.out,htm,t1])
              have hk:decide (1≤tim)=false:=by simp;omega
              clear htm t1
              go_enter Tryz.func24,Tryz.ntmps24
              go_wp2_with (first|(go_at_call 18;refine(Op.renc_any A n c E _ B (by have:=HB.out;simp;omega) (by exact HE.out.keep (by have:=HB.out;exact bel)) HN.out).mono ?_;rw[HL.out];unfold Op.EncP;rw[HENC.out];rintro e w2 ⟨v,rfl,hb,-⟩;obtain⟨xs2,d2,rfl⟩:=ext_of hb;clear hb)|(go_at_call 57;refine(Fs.timed_r _ _).mono ?_;rw[HTM.out];rintro e w1 ⟨rfl,rfl⟩))
              go_ret
              exact⟨by rw[HV.out];rfl,by exact bel⟩
           ·have HV:=hid (show isB ⟨st,id,req,L,cnt,tim,nak⟩=false by simp[isB,numsB,inB,h1,h2,h3,h4,h5,h6,h7,h8,h9,h10,HENC.out,hee])
            have HTM:=hid (rfl:(0:Nat)=0)
            have hee2:(ee !=0)=true:=by simpa using hee
            go_enter Tryz.func24,Tryz.ntmps24
            go_wp2_with (first|(go_at_call 18;refine(Op.renc_any A n c E _ B (by have:=HB.out;simp;omega) (by exact HE.out.keep (by have:=HB.out;exact bel)) HN.out).mono ?_;rw[HL.out];unfold Op.EncP;rw[HENC.out];rintro e w2 ⟨v,rfl,hb,-⟩;obtain⟨xs2,d2,rfl⟩:=ext_of hb;clear hb)|(go_at_call 57;refine(Fs.timed_r _ _).mono ?_;rw[HTM.out];rintro e w1 ⟨rfl,rfl⟩))
            go_ret
            exact⟨by rw[HV.out];rfl,by exact bel⟩
          ·have HV:=hid (show isB ⟨st,id,req,L,cnt,tim,nak⟩=false by simp[isB,numsB,inB,h1,h2,h3,h4,h5,h6,h7,h8,h9,h10])
           replace h10:1000<nak:=by omega
           go_enter Tryz.func24,Tryz.ntmps24
           go_wp2_with fail
           go_ret
           exact⟨by rw[HV.out];rfl,by exact bel⟩
         ·have HV:=hid (show isB ⟨st,id,req,L,cnt,tim,nak⟩=false by simp[isB,numsB,inB,h1,h2,h3,h4,h5,h6,h7,h8,h9])
          replace h9:nak<0:=by omega
          go_enter Tryz.func24,Tryz.ntmps24
          go_wp2_with fail
          go_ret
          exact⟨by rw[HV.out];rfl,by exact bel⟩
        ·have HV:=hid (show isB ⟨st,id,req,L,cnt,tim,nak⟩=false by simp[isB,numsB,inB,h1,h2,h3,h4,h5,h6,h7,h8])
         replace h8:1000<cnt:=by omega
         go_enter Tryz.func24,Tryz.ntmps24
         go_wp2_with fail
         go_ret
         exact⟨by rw[HV.out];rfl,by exact bel⟩
       ·have HV:=hid (show isB ⟨st,id,req,L,cnt,tim,nak⟩=false by simp[isB,numsB,inB,h1,h2,h3,h4,h5,h6,h7])
        replace h7:cnt<0:=by omega
        go_enter Tryz.func24,Tryz.ntmps24
        go_wp2_with fail
        go_ret
        exact⟨by rw[HV.out];rfl,by exact bel⟩
      ·have HV:=hid (show isB ⟨st,id,req,L,cnt,tim,nak⟩=false by simp[isB,numsB,inB,h1,h2,h3,h4,h5,h6])
       replace h6:255<req:=by omega
       go_enter Tryz.func24,Tryz.ntmps24
       go_wp2_with fail
       go_ret
       exact⟨by rw[HV.out];rfl,by exact bel⟩
     ·have HV:=hid (show isB ⟨st,id,req,L,cnt,tim,nak⟩=false by simp[isB,numsB,inB,h1,h2,h3,h4,h5])
      replace h5:req<0:=by omega
      go_enter Tryz.func24,Tryz.ntmps24
      go_wp2_with fail
      go_ret
      exact⟨by rw[HV.out];rfl,by exact bel⟩
    ·have HV:=hid (show isB ⟨st,id,req,L,cnt,tim,nak⟩=false by simp[isB,numsB,inB,h1,h2,h3,h4])
     replace h4:255<id:=by omega
     go_enter Tryz.func24,Tryz.ntmps24
     go_wp2_with fail
     go_ret
     exact⟨by rw[HV.out];rfl,by exact bel⟩
   ·have HV:=hid (show isB ⟨st,id,req,L,cnt,tim,nak⟩=false by simp[isB,numsB,inB,h1,h2,h3])
    replace h3:id<0:=by omega
    go_enter Tryz.func24,Tryz.ntmps24
    go_wp2_with fail
    go_ret
    exact⟨by rw[HV.out];rfl,by exact bel⟩
  ·have HV:=hid (show isB ⟨st,id,req,L,cnt,tim,nak⟩=false by simp[isB,numsB,inB,h1,h2])
   replace h2:9<st:=by omega
   go_enter Tryz.func24,Tryz.ntmps24
   go_wp2_with fail
   go_ret
   exact⟨by rw[HV.out];rfl,by exact bel⟩
 ·have HV:=hid (show isB ⟨st,id,req,L,cnt,tim,nak⟩=false by simp[isB,numsB,inB,h1])
  replace h1:st<0:=by omega
  go_enter Tryz.func24,Tryz.ntmps24
  go_wp2_with fail
  go_ret
  exact⟨by rw[HV.out];rfl,by exact bel⟩
theorem fine_ref (A:Option Addr) (n c:Nat) (R:List Rl) (mc mt mf wt:Int) (st id req cnt tim nak:Int) (A2:Option Addr) (n2 c2:Nat) (E:List Ent) (L:List Opt) (hL:E.map Ent.o=L) (tick:Int) (w:World) (B:Nat) (hB:B≤w.heap.size) (hR:RulesAt w B A R) (hn:n=R.length) (hl:n≤1000000) (hE:OptsAt w B A2 E) (hn2:n2=E.length):
  Calls Tryz.prog 54 #[.agg #[.slice A n c,.int .i64 mc,.int .i64 mt,.int .i64 mf,.int .i64 wt],.agg #[.int .i64 st,.int .i64 id,.int .i64 req,.slice A2 n2 c2,.int .i64 cnt,.int .i64 tim,.int .i64 nak],.int .i64 tick] w fun x w'=>x=.returned (.bool (fineB ⟨R,mc,mt,mf,wt⟩ ⟨st,id,req,L,cnt,tim,nak⟩ tick))∧Below w.heap.size w w':=by
 have HB:=hid hB
 have HR:=hid hR
 have HN:=hid hn
 have HE:=hid hE
 have HN2:=hid hn2
 have HL:=hid hL
 clear hB hR hn hE hn2 hL
 by_cases h0:confB ⟨R,mc,mt,mf,wt⟩=true
 ·by_cases h1:isB ⟨st,id,req,L,cnt,tim,nak⟩=true
  ·by_cases h2:0≤tick
   ·by_cases h3:tick≤1099511627776
    ·have HV:=hid (show fineB ⟨R,mc,mt,mf,wt⟩ ⟨st,id,req,L,cnt,tim,nak⟩ tick=true by simp[fineB,inB,h0,h1,h2,h3])
     have HC:=hid h0
     clear h0
     have HI:=hid h1
     clear h1
     go_enter Tryz.func54,Tryz.ntmps54
     go_wp2_with (first|(go_at_call 13;refine(conf_ref A n c R mc mt mf wt _ B (by have:=HB.out;simp;omega) (by exact HR.out.keep (by have:=HB.out;exact bel)) HN.out hl).mono ?_;rw[HC.out];rintro e w1 ⟨rfl,hb⟩;obtain⟨xs,d,rfl⟩:=ext_of hb;clear hb)|(go_at_call 24;refine(is_ref st id req cnt tim nak A2 n2 c2 E L HL.out _ B (by have:=HB.out;simp[size_ext,grow];omega) (by exact HE.out.keep (by have:=HB.out;exact bel)) HN2.out).mono ?_;rw[HI.out];rintro e w1 ⟨rfl,hb⟩;obtain⟨xs3,d3,rfl⟩:=ext_of hb;clear hb))
     go_ret
     exact⟨by rw[HV.out];rfl,by exact bel⟩
    ·have HV:=hid (show fineB ⟨R,mc,mt,mf,wt⟩ ⟨st,id,req,L,cnt,tim,nak⟩ tick=false by simp[fineB,inB,h0,h1,h2,h3])
     have HC:=hid h0
     clear h0
     have HI:=hid h1
     clear h1
     have hk:decide (tick≤1099511627776)=false:=by simp;omega
     clear h3
     go_enter Tryz.func54,Tryz.ntmps54
     go_wp2_with (first|(go_at_call 13;refine(conf_ref A n c R mc mt mf wt _ B (by have:=HB.out;simp;omega) (by exact HR.out.keep (by have:=HB.out;exact bel)) HN.out hl).mono ?_;rw[HC.out];rintro e w1 ⟨rfl,hb⟩;obtain⟨xs,d,rfl⟩:=ext_of hb;clear hb)|(go_at_call 24;refine(is_ref st id req cnt tim nak A2 n2 c2 E L HL.out _ B (by have:=HB.out;simp[size_ext,grow];omega) (by exact HE.out.keep (by have:=HB.out;exact bel)) HN2.out).mono ?_;rw[HI.out];rintro e w1 ⟨rfl,hb⟩;obtain⟨xs3,d3,rfl⟩:=ext_of hb;clear hb))
     go_ret
     exact⟨by rw[HV.out];rfl,by exact bel⟩
   ·have HV:=hid (show fineB ⟨R,mc,mt,mf,wt⟩ ⟨st,id,req,L,cnt,tim,nak⟩ tick=false by simp[fineB,inB,h0,h1,h2])
    have HC:=hid h0
    clear h0
    have HI:=hid h1
    clear h1
    have hk:decide (0≤tick)=false:=by simp;omega
    clear h2
    go_enter Tryz.func54,Tryz.ntmps54
    go_wp2_with (first|(go_at_call 13;refine(conf_ref A n c R mc mt mf wt _ B (by have:=HB.out;simp;omega) (by exact HR.out.keep (by have:=HB.out;exact bel)) HN.out hl).mono ?_;rw[HC.out];rintro e w1 ⟨rfl,hb⟩;obtain⟨xs,d,rfl⟩:=ext_of hb;clear hb)|(go_at_call 24;refine(is_ref st id req cnt tim nak A2 n2 c2 E L HL.out _ B (by have:=HB.out;simp[size_ext,grow];omega) (by exact HE.out.keep (by have:=HB.out;exact bel)) HN2.out).mono ?_;rw[HI.out];rintro e w1 ⟨rfl,hb⟩;obtain⟨xs3,d3,rfl⟩:=ext_of hb;clear hb))
    go_ret
    exact⟨by rw[HV.out];rfl,by exact bel⟩
  ·simp only[Bool.not_eq_true] at h1
   have HV:=hid (show fineB ⟨R,mc,mt,mf,wt⟩ ⟨st,id,req,L,cnt,tim,nak⟩ tick=false by simp[fineB,inB,h0,h1])
   have HC:=hid h0
   clear h0
   have HI:=hid h1
   clear h1
   go_enter Tryz.func54,Tryz.ntmps54
   go_wp2_with (first|(go_at_call 13;refine(conf_ref A n c R mc mt mf wt _ B (by have:=HB.out;simp;omega) (by exact HR.out.keep (by have:=HB.out;exact bel)) HN.out hl).mono ?_;rw[HC.out];rintro e w1 ⟨rfl,hb⟩;obtain⟨xs,d,rfl⟩:=ext_of hb;clear hb)|(go_at_call 24;refine(is_ref st id req cnt tim nak A2 n2 c2 E L HL.out _ B (by have:=HB.out;simp[size_ext,grow];omega) (by exact HE.out.keep (by have:=HB.out;exact bel)) HN2.out).mono ?_;rw[HI.out];rintro e w1 ⟨rfl,hb⟩;obtain⟨xs3,d3,rfl⟩:=ext_of hb;clear hb))
   go_ret
   exact⟨by rw[HV.out];rfl,by exact bel⟩
 ·simp only[Bool.not_eq_true] at h0
  have HV:=hid (show fineB ⟨R,mc,mt,mf,wt⟩ ⟨st,id,req,L,cnt,tim,nak⟩ tick=false by simp[fineB,inB,h0])
  have HC:=hid h0
  clear h0
  have HI:=hid (rfl:(0:Nat)=0)
  go_enter Tryz.func54,Tryz.ntmps54
  go_wp2_with (first|(go_at_call 13;refine(conf_ref A n c R mc mt mf wt _ B (by have:=HB.out;simp;omega) (by exact HR.out.keep (by have:=HB.out;exact bel)) HN.out hl).mono ?_;rw[HC.out];rintro e w1 ⟨rfl,hb⟩;obtain⟨xs,d,rfl⟩:=ext_of hb;clear hb))
  go_ret
  exact⟨by rw[HV.out];rfl,by exact bel⟩
def sameA (a b:Au):Bool:=a.st==b.st&&(a.id==b.id&&(a.req==b.req&&(a.cnt==b.cnt&&(a.tim==b.tim&&(a.nak==b.nak&&Op.sameB a.ask b.ask)))))
theorem same_ref (s1 i1 r1 c1 t1 k1 s2 i2 r2 c2 t2 k2:Int) (A1 A2:Option Addr) (n1 n2 m1 m2:Nat) (E1 E2:List Ent) (L1 L2:List Opt) (hL1:E1.map Ent.o=L1) (hL2:E2.map Ent.o=L2) (w:World) (B:Nat) (hB:B≤w.heap.size) (hE1:OptsAt w B A1 E1) (hE2:OptsAt w B A2 E2) (hn1:n1=E1.length) (hn2:n2=E2.length) (hl:n1≤1000000):
  Calls Tryz.prog 21 #[.agg #[.int .i64 s1,.int .i64 i1,.int .i64 r1,.slice A1 n1 m1,.int .i64 c1,.int .i64 t1,.int .i64 k1],.agg #[.int .i64 s2,.int .i64 i2,.int .i64 r2,.slice A2 n2 m2,.int .i64 c2,.int .i64 t2,.int .i64 k2]] w fun x w'=>x=.returned (.bool (sameA ⟨s1,i1,r1,L1,c1,t1,k1⟩ ⟨s2,i2,r2,L2,c2,t2,k2⟩))∧Below w.heap.size w w':=by
 have HB:=hid hB
 have HE1:=hid hE1
 have HE2:=hid hE2
 have HN1:=hid hn1
 have HN2:=hid hn2
 have HL1:=hid hL1
 have HL2:=hid hL2
 clear hB hE1 hE2 hn1 hn2 hL1 hL2
 cases h0:(s1==s2)
 ·have HV:=hid (show sameA ⟨s1,i1,r1,L1,c1,t1,k1⟩ ⟨s2,i2,r2,L2,c2,t2,k2⟩=false by simp[sameA,h0])
  go_enter Tryz.func21,Tryz.ntmps21
  go_wp2_with fail
  go_ret
  exact⟨by rw[HV.out];rfl,by exact bel⟩
 ·cases h1:(i1==i2)
  ·have HV:=hid (show sameA ⟨s1,i1,r1,L1,c1,t1,k1⟩ ⟨s2,i2,r2,L2,c2,t2,k2⟩=false by simp[sameA,h0,h1])
   go_enter Tryz.func21,Tryz.ntmps21
   go_wp2_with fail
   go_ret
   exact⟨by rw[HV.out];rfl,by exact bel⟩
  ·cases h2:(r1==r2)
   ·have HV:=hid (show sameA ⟨s1,i1,r1,L1,c1,t1,k1⟩ ⟨s2,i2,r2,L2,c2,t2,k2⟩=false by simp[sameA,h0,h1,h2])
    go_enter Tryz.func21,Tryz.ntmps21
    go_wp2_with fail
    go_ret
    exact⟨by rw[HV.out];rfl,by exact bel⟩
   ·cases h3:(c1==c2)
    ·have HV:=hid (show sameA ⟨s1,i1,r1,L1,c1,t1,k1⟩ ⟨s2,i2,r2,L2,c2,t2,k2⟩=false by simp[sameA,h0,h1,h2,h3])
     go_enter Tryz.func21,Tryz.ntmps21
     go_wp2_with fail
     go_ret
     exact⟨by rw[HV.out];rfl,by exact bel⟩
    ·cases h4:(t1==t2)
     ·have HV:=hid (show sameA ⟨s1,i1,r1,L1,c1,t1,k1⟩ ⟨s2,i2,r2,L2,c2,t2,k2⟩=false by simp[sameA,h0,h1,h2,h3,h4])
      go_enter Tryz.func21,Tryz.ntmps21
      go_wp2_with fail
      go_ret
      exact⟨by rw[HV.out];rfl,by exact bel⟩
     ·cases h5:(k1==k2)
      ·have HV:=hid (show sameA ⟨s1,i1,r1,L1,c1,t1,k1⟩ ⟨s2,i2,r2,L2,c2,t2,k2⟩=false by simp[sameA,h0,h1,h2,h3,h4,h5])
       go_enter Tryz.func21,Tryz.ntmps21
       go_wp2_with fail
       go_ret
       exact⟨by rw[HV.out];rfl,by exact bel⟩
      ·have HV:=hid (show sameA ⟨s1,i1,r1,L1,c1,t1,k1⟩ ⟨s2,i2,r2,L2,c2,t2,k2⟩=Op.sameB L1 L2 by simp[sameA,h0,h1,h2,h3,h4,h5])
       go_enter Tryz.func21,Tryz.ntmps21
       go_wp2_with (go_at_call 64;refine(Op.same_ref A1 A2 n1 n2 m1 m2 E1 E2 _ B (by have:=HB.out;simp;omega) (by exact HE1.out.keep (by have:=HB.out;exact bel)) (by exact HE2.out.keep (by have:=HB.out;exact bel)) HN1.out HN2.out hl).mono ?_;rw[HL1.out,HL2.out];rintro e w1 ⟨rfl,hb⟩;obtain⟨xs,d,rfl⟩:=ext_of hb;clear hb)
       go_ret
       exact⟨by rw[HV.out];rfl,by exact bel⟩
end Go.Proofs.YtfkgmbknfnhjoaaGreat
