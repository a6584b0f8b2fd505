/- Bundle PK. -/
import Derived.Test.YtfkgmbknfnhjoaaGreatRPJ
set_option maxHeartbeats 8000000
namespace Go.Proofs.YtfkgmbknfnhjoaaGreat
open Lib (hid)
open Go.RowKit
set_option linter.unusedSimpArgs false
set_option linter.unusedVariables false
set_option linter.ambiguousOpen false
open Ne (Rl Opt RulesAt areB answerO learnO)
open Fs (av hasB)
set_option maxRecDepth 100000 in
theorem which_3 (Ar Aa Ai:Option Addr) (nr cr na ca ni ci:Nat) (R:List Rl) (mc mt mf wt st id req cnt tim nak ii:Int) (E:List Ent) (li:List UInt8) (w:World) (B:Nat) (hB:B≤w.heap.size) (hR:RulesAt w B Ar R) (hnr:nr=R.length) (hlr:nr≤1000000) (hE:OptsAt w B Aa E) (hna:na=E.length) (hla:na≤1000000) (hda: ∀e∈E,e.d.length≤1000000) (hI:At w B Ai (li.map bv)) (hni:ni=li.length) (hci:ni≤ci):Calls Tryz.prog 61 #[.agg #[.slice Ar nr cr,.int .i64 mc,.int .i64 mt,.int .i64 mf,.int .i64 wt],.agg #[.int .i64 st,.int .i64 id,.int .i64 req,.slice Aa na ca,.int .i64 cnt,.int .i64 tim,.int .i64 nak],.agg #[.int .i64 3,.int .i64 ii,.slice Ai ni ci]] w (WhichP (whichO ⟨R,mc,mt,mf,wt⟩ ⟨st,id,req,E.map Ent.o,cnt,tim,nak⟩ ⟨3,ii,li⟩) w):=by
 have HB:=hid hB
 have HR:=hid hR
 have HNR:=hid hnr
 have HE:=hid hE
 have HNA:=hid hna
 have HDA:=hid hda
 have HI:=hid hI
 have HNI:=hid hni
 obtain⟨L,hL⟩: ∃L,E.map Ent.o=L:=⟨_,rfl⟩
 have HL:=hid hL
 rw[hL]
 clear hB hR hnr hE hna hda hL hI hni
 have HO0:=hid (show whichO ⟨R,mc,mt,mf,wt⟩ ⟨st,id,req,L,cnt,tim,nak⟩ ⟨3,ii,li⟩=learnedO ⟨st,id,req,L,cnt,tim,nak⟩ ⟨3,ii,li⟩ from rfl)
 rw[HO0.out]
 clear HO0
 obtain⟨⟨Y,ye⟩,hd⟩: ∃r,Op.decR li=r:=⟨_,rfl⟩
 have HDR:=hid hd
 by_cases h1:ii=req
 ·have h1':(ii !=req)=false:=by simp[h1]
  by_cases h0:ye=0
  ·subst h0
   obtain⟨⟨nx,ok⟩,hln⟩: ∃r,learnO L 3 Y=r:=⟨_,rfl⟩
   have HLN:=hid hln
   obtain⟨⟨eb,ee⟩,hen⟩: ∃r,Op.encR nx=r:=⟨_,rfl⟩
   have HEN:=hid hen
   obtain⟨nb,hnb⟩: ∃nb,eb.length=nb:=⟨_,rfl⟩
   have HNB:=hid hnb
   have HO0:=hid (show learnedO ⟨st,id,req,L,cnt,tim,nak⟩ ⟨3,ii,li⟩=if ok=true∧ee=0 then some (10,⟨0,0,[]⟩,nx) else none by unfold learnedO;dsimp only;rw[hd];dsimp only;rw[if_neg (by simp[h1]),hln];dsimp only;rw[hen])
   rw[HO0.out]
   clear hd hln hen hnb h1 HO0
   cases ok
   ·rw[if_neg (by simp)]
    go_enter Tryz.func61,Tryz.ntmps61
    go_upto_region 1 with(fail)
    refine boxes4 ?_
    rintro W2 ⟨h6,h7,h8,h12,hbw⟩
    have HBW:=hid hbw
    have H12:=hid h12
    have hszW:=hbw.size
    have l6:=lt_blk h6
    have l7:=lt_blk h7
    have l8:=lt_blk h8
    have l12:=lt_blk h12
    obtain⟨p0,p1,p2,p3,p4⟩:=cells5 h6
    obtain⟨q0,q1,q2,q3,q4,q5,q6⟩:=cells7 h7
    obtain⟨r0,r1,r2⟩:=cells3 h8
    obtain⟨z0,z1,z2⟩:=cells3 h12
    have f0:=frees h12 0
    have f1:=frees h12 1
    have f2:=frees h12 2
    clear h6 h7 h8 h12 hbw
    go_wp2_with fail
    refine(Op.dec_any Ai ni ci li _ B (by have:=HB.out;omega) (HI.out.keep (HBW.out.mono HB.out)) HNI.out hci).mono ?_
    rintro x w3 hd
    obtain⟨E3,A3,n3,c3,rfl,hb3,ho3,he3,hn3,hc3,hl3,hsd3⟩:=DecP.get hd HDR.out
    have HO3:=hid ho3
    have HE3:=hid he3
    have HN3:=hid hn3
    have HS3:=hid hsd3
    have HB3:=hid (show Below W2.heap.size W2 w3 from hb3)
    have hs3:=HB3.out.size
    have H123:=hid ((HB3.out.block _ l12).trans H12.out)
    obtain⟨⟨l73,l83,l123⟩,⟨t23,t33⟩,⟨v03,v13,v23⟩,⟨z03,z13,z23⟩,⟨f03,f13,f23⟩⟩:=afterK HB3.out l7 l8 l12 q2 q3 r0 r1 r2 H12.out
    clear hd hb3 ho3 he3 hn3 hsd3 p0 p1 p2 p3 p4 q0 q1 q4 q5 q6 z0 z1 z2 f0 f1 f2
    go_wp2_with fail
    refine(Ne.learn_any Aa A3 na n3 ca c3 3 E E3 _ w3.heap.size (Nat.le_refl _) ((HE.out.keep ((HBW.out.trans (HB3.out.mono hszW)).mono HB.out)).more (by have:=HB.out;omega)) HO3.out.at HNA.out HN3.out hc3 hla (by omega) HDA.out (fun e he=>by have:=HS3.out e he;omega)).mono ?_
    rw[HL.out,HE3.out,HLN.out]
    rintro x w4 hl
    obtain⟨E4,A4,n4,c4,rfl,he4,hn4,hc4,hb4,ho4⟩:=Ne.RowsB.get hl
    have HO4:=hid ho4
    have HE4:=hid he4
    have HN4:=hid hn4
    have HB34:=hid hb4
    have HB4:=hid (show Below W2.heap.size W2 w4 from HB3.out.trans (hb4.mono hs3))
    have hs4:=HB4.out.size
    have H124:=hid ((HB4.out.block _ l12).trans H12.out)
    obtain⟨⟨l74,l84,l124⟩,⟨t24,t34⟩,⟨v04,v14,v24⟩,⟨z04,z14,z24⟩,⟨f04,f14,f24⟩⟩:=afterK HB4.out l7 l8 l12 q2 q3 r0 r1 r2 H12.out
    clear hl hb4 ho4 he4 hn4 z03 z13 z23 f03 f13 f23 t23 t33 v03 v13 v23
    go_wp2_with fail
    refine(Op.enc_any A4 n4 c4 E4 _ _ (Nat.le_refl _) HO4.out.at HN4.out).mono ?_
    rw[HE4.out]
    rintro x w5 he
    obtain⟨A5,c5,rfl,hb5,ho5,hc5⟩:=EncP.get he HEN.out HNB.out
    have HB45:=hid hb5
    have HB5:=hid (show Below W2.heap.size W2 w5 from HB4.out.trans (hb5.mono hs4))
    have hs5:=HB5.out.size
    have H125:=hid ((HB5.out.block _ l12).trans H12.out)
    obtain⟨⟨l75,l85,l125⟩,⟨t25,t35⟩,⟨v05,v15,v25⟩,⟨z05,z15,z25⟩,⟨f05,f15,f25⟩⟩:=afterK HB5.out l7 l8 l12 q2 q3 r0 r1 r2 H12.out
    clear he hb5 ho5 z04 z14 z24 f04 f14 f24 t24 t34 v04 v14 v24
    go_wp2_with fail
    obtain⟨Wf,hWf⟩: ∃Wf:World,Wf=(((w5.setCell ⟨w.heap.size+1+1+1,0,none⟩ (.int .i64 0)).setCell ⟨w.heap.size+1+1+1,1,none⟩ (.int .i64 0)).setCell ⟨w.heap.size+1+1+1,2,none⟩ (.slice none 0 0)):=⟨_,rfl⟩
    rw[←hWf]
    have hrow:Wf.heap[w.heap.size+1+1+1]? =some (.cells #[.int .i64 0,.int .i64 0,.slice none 0 0] 32 (0,0)):=by rw[hWf];exact row3 H125.out rfl _ _ _
    have hgr:(w5).grownBy Wf (some (w.heap.size+1+1+1)):=by rw[hWf];exact grn
    have hbf:Below w.heap.size w Wf:=Below.grown (HBW.out.trans (HB5.out.mono hszW)) hgr (Nat.le_trans hszW hs5) (fun k hk=>by cases hk;omega)
    clear hWf z05 z15 z25 f05 f15 f25
    obtain⟨u0,u1,u2⟩:=cells3 hrow
    refine bodyPost_ret (v:=.tuple #[.int .i64 0,.agg #[.int .i64 0,.int .i64 0,.slice none 0 0],.slice none 0 0]) (by simp[results,Tryz.results61,go_sem,u0,u1,u2]) rfl ?_
    exact⟨_,_,_,rfl,hbf⟩
   ·by_cases h5:ee=0
    ·subst h5
     rw[if_pos ⟨rfl,rfl⟩]
     go_enter Tryz.func61,Tryz.ntmps61
     go_upto_region 1 with(fail)
     refine boxes4 ?_
     rintro W2 ⟨h6,h7,h8,h12,hbw⟩
     have HBW:=hid hbw
     have H12:=hid h12
     have hszW:=hbw.size
     have l6:=lt_blk h6
     have l7:=lt_blk h7
     have l8:=lt_blk h8
     have l12:=lt_blk h12
     obtain⟨p0,p1,p2,p3,p4⟩:=cells5 h6
     obtain⟨q0,q1,q2,q3,q4,q5,q6⟩:=cells7 h7
     obtain⟨r0,r1,r2⟩:=cells3 h8
     obtain⟨z0,z1,z2⟩:=cells3 h12
     have f0:=frees h12 0
     have f1:=frees h12 1
     have f2:=frees h12 2
     clear h6 h7 h8 h12 hbw
     go_wp2_with fail
     refine(Op.dec_any Ai ni ci li _ B (by have:=HB.out;omega) (HI.out.keep (HBW.out.mono HB.out)) HNI.out hci).mono ?_
     rintro x w3 hd
     obtain⟨E3,A3,n3,c3,rfl,hb3,ho3,he3,hn3,hc3,hl3,hsd3⟩:=DecP.get hd HDR.out
     have HO3:=hid ho3
     have HE3:=hid he3
     have HN3:=hid hn3
     have HS3:=hid hsd3
     have HB3:=hid (show Below W2.heap.size W2 w3 from hb3)
     have hs3:=HB3.out.size
     have H123:=hid ((HB3.out.block _ l12).trans H12.out)
     obtain⟨⟨l73,l83,l123⟩,⟨t23,t33⟩,⟨v03,v13,v23⟩,⟨z03,z13,z23⟩,⟨f03,f13,f23⟩⟩:=afterK HB3.out l7 l8 l12 q2 q3 r0 r1 r2 H12.out
     clear hd hb3 ho3 he3 hn3 hsd3 p0 p1 p2 p3 p4 q0 q1 q4 q5 q6 z0 z1 z2 f0 f1 f2
     go_wp2_with fail
     refine(Ne.learn_any Aa A3 na n3 ca c3 3 E E3 _ w3.heap.size (Nat.le_refl _) ((HE.out.keep ((HBW.out.trans (HB3.out.mono hszW)).mono HB.out)).more (by have:=HB.out;omega)) HO3.out.at HNA.out HN3.out hc3 hla (by omega) HDA.out (fun e he=>by have:=HS3.out e he;omega)).mono ?_
     rw[HL.out,HE3.out,HLN.out]
     rintro x w4 hl
     obtain⟨E4,A4,n4,c4,rfl,he4,hn4,hc4,hb4,ho4⟩:=Ne.RowsB.get hl
     have HO4:=hid ho4
     have HE4:=hid he4
     have HN4:=hid hn4
     have HB34:=hid hb4
     have HB4:=hid (show Below W2.heap.size W2 w4 from HB3.out.trans (hb4.mono hs3))
     have hs4:=HB4.out.size
     have H124:=hid ((HB4.out.block _ l12).trans H12.out)
     obtain⟨⟨l74,l84,l124⟩,⟨t24,t34⟩,⟨v04,v14,v24⟩,⟨z04,z14,z24⟩,⟨f04,f14,f24⟩⟩:=afterK HB4.out l7 l8 l12 q2 q3 r0 r1 r2 H12.out
     clear hl hb4 ho4 he4 hn4 z03 z13 z23 f03 f13 f23 t23 t33 v03 v13 v23
     go_wp2_with fail
     refine(Op.enc_any A4 n4 c4 E4 _ _ (Nat.le_refl _) HO4.out.at HN4.out).mono ?_
     rw[HE4.out]
     rintro x w5 he
     obtain⟨A5,c5,rfl,hb5,ho5,hc5⟩:=EncP.get he HEN.out HNB.out
     have HB45:=hid hb5
     have HB5:=hid (show Below W2.heap.size W2 w5 from HB4.out.trans (hb5.mono hs4))
     have hs5:=HB5.out.size
     have H125:=hid ((HB5.out.block _ l12).trans H12.out)
     obtain⟨⟨l75,l85,l125⟩,⟨t25,t35⟩,⟨v05,v15,v25⟩,⟨z05,z15,z25⟩,⟨f05,f15,f25⟩⟩:=afterK HB5.out l7 l8 l12 q2 q3 r0 r1 r2 H12.out
     clear he hb5 ho5 z04 z14 z24 f04 f14 f24 t24 t34 v04 v14 v24
     go_wp2_with fail
     obtain⟨Wf,hWf⟩: ∃Wf:World,Wf=(((w5.setCell ⟨w.heap.size+1+1+1,0,none⟩ (.int .i64 0)).setCell ⟨w.heap.size+1+1+1,1,none⟩ (.int .i64 0)).setCell ⟨w.heap.size+1+1+1,2,none⟩ (.slice none 0 0)):=⟨_,rfl⟩
     rw[←hWf]
     have hrow:Wf.heap[w.heap.size+1+1+1]? =some (.cells #[.int .i64 0,.int .i64 0,.slice none 0 0] 32 (0,0)):=by rw[hWf];exact row3 H125.out rfl _ _ _
     have hgr:(w5).grownBy Wf (some (w.heap.size+1+1+1)):=by rw[hWf];exact grn
     have hbf:Below w.heap.size w Wf:=Below.grown (HBW.out.trans (HB5.out.mono hszW)) hgr (Nat.le_trans hszW hs5) (fun k hk=>by cases hk;omega)
     clear hWf z05 z15 z25 f05 f15 f25
     obtain⟨u0,u1,u2⟩:=cells3 hrow
     refine bodyPost_ret (v:=.tuple #[.int .i64 10,.agg #[.int .i64 0,.int .i64 0,.slice none 0 0],.slice A4 n4 c4]) (by simp[results,Tryz.results61,go_sem,u0,u1,u2]) rfl ?_
     exact⟨none,0,0,A4,n4,c4,rfl,hbf,BytesO.nil _ _,fun _=>((OwnOpts.otherx (⟨E4,HO4.out.below HB45.out,HE4.out⟩:OptsO _ _ _ nx) hgr H125.out (by decide) (by decide))).base (Nat.le_trans hszW hs3)⟩
    ·have h5':(ee==0)=false:=by simpa using h5
     rw[if_neg (fun h=>h5 h.2)]
     clear h5
     go_enter Tryz.func61,Tryz.ntmps61
     go_upto_region 1 with(fail)
     refine boxes4 ?_
     rintro W2 ⟨h6,h7,h8,h12,hbw⟩
     have HBW:=hid hbw
     have H12:=hid h12
     have hszW:=hbw.size
     have l6:=lt_blk h6
     have l7:=lt_blk h7
     have l8:=lt_blk h8
     have l12:=lt_blk h12
     obtain⟨p0,p1,p2,p3,p4⟩:=cells5 h6
     obtain⟨q0,q1,q2,q3,q4,q5,q6⟩:=cells7 h7
     obtain⟨r0,r1,r2⟩:=cells3 h8
     obtain⟨z0,z1,z2⟩:=cells3 h12
     have f0:=frees h12 0
     have f1:=frees h12 1
     have f2:=frees h12 2
     clear h6 h7 h8 h12 hbw
     go_wp2_with fail
     refine(Op.dec_any Ai ni ci li _ B (by have:=HB.out;omega) (HI.out.keep (HBW.out.mono HB.out)) HNI.out hci).mono ?_
     rintro x w3 hd
     obtain⟨E3,A3,n3,c3,rfl,hb3,ho3,he3,hn3,hc3,hl3,hsd3⟩:=DecP.get hd HDR.out
     have HO3:=hid ho3
     have HE3:=hid he3
     have HN3:=hid hn3
     have HS3:=hid hsd3
     have HB3:=hid (show Below W2.heap.size W2 w3 from hb3)
     have hs3:=HB3.out.size
     have H123:=hid ((HB3.out.block _ l12).trans H12.out)
     obtain⟨⟨l73,l83,l123⟩,⟨t23,t33⟩,⟨v03,v13,v23⟩,⟨z03,z13,z23⟩,⟨f03,f13,f23⟩⟩:=afterK HB3.out l7 l8 l12 q2 q3 r0 r1 r2 H12.out
     clear hd hb3 ho3 he3 hn3 hsd3 p0 p1 p2 p3 p4 q0 q1 q4 q5 q6 z0 z1 z2 f0 f1 f2
     go_wp2_with fail
     refine(Ne.learn_any Aa A3 na n3 ca c3 3 E E3 _ w3.heap.size (Nat.le_refl _) ((HE.out.keep ((HBW.out.trans (HB3.out.mono hszW)).mono HB.out)).more (by have:=HB.out;omega)) HO3.out.at HNA.out HN3.out hc3 hla (by omega) HDA.out (fun e he=>by have:=HS3.out e he;omega)).mono ?_
     rw[HL.out,HE3.out,HLN.out]
     rintro x w4 hl
     obtain⟨E4,A4,n4,c4,rfl,he4,hn4,hc4,hb4,ho4⟩:=Ne.RowsB.get hl
     have HO4:=hid ho4
     have HE4:=hid he4
     have HN4:=hid hn4
     have HB34:=hid hb4
     have HB4:=hid (show Below W2.heap.size W2 w4 from HB3.out.trans (hb4.mono hs3))
     have hs4:=HB4.out.size
     have H124:=hid ((HB4.out.block _ l12).trans H12.out)
     obtain⟨⟨l74,l84,l124⟩,⟨t24,t34⟩,⟨v04,v14,v24⟩,⟨z04,z14,z24⟩,⟨f04,f14,f24⟩⟩:=afterK HB4.out l7 l8 l12 q2 q3 r0 r1 r2 H12.out
     clear hl hb4 ho4 he4 hn4 z03 z13 z23 f03 f13 f23 t23 t33 v03 v13 v23
     go_wp2_with fail
     refine(Op.enc_any A4 n4 c4 E4 _ _ (Nat.le_refl _) HO4.out.at HN4.out).mono ?_
     rw[HE4.out]
     rintro x w5 he
     obtain⟨A5,c5,rfl,hb5,ho5,hc5⟩:=EncP.get he HEN.out HNB.out
     have HB45:=hid hb5
     have HB5:=hid (show Below W2.heap.size W2 w5 from HB4.out.trans (hb5.mono hs4))
     have hs5:=HB5.out.size
     have H125:=hid ((HB5.out.block _ l12).trans H12.out)
     obtain⟨⟨l75,l85,l125⟩,⟨t25,t35⟩,⟨v05,v15,v25⟩,⟨z05,z15,z25⟩,⟨f05,f15,f25⟩⟩:=afterK HB5.out l7 l8 l12 q2 q3 r0 r1 r2 H12.out
     clear he hb5 ho5 z04 z14 z24 f04 f14 f24 t24 t34 v04 v14 v24
     go_wp2_with fail
     obtain⟨Wf,hWf⟩: ∃Wf:World,Wf=(((w5.setCell ⟨w.heap.size+1+1+1,0,none⟩ (.int .i64 0)).setCell ⟨w.heap.size+1+1+1,1,none⟩ (.int .i64 0)).setCell ⟨w.heap.size+1+1+1,2,none⟩ (.slice none 0 0)):=⟨_,rfl⟩
     rw[←hWf]
     have hrow:Wf.heap[w.heap.size+1+1+1]? =some (.cells #[.int .i64 0,.int .i64 0,.slice none 0 0] 32 (0,0)):=by rw[hWf];exact row3 H125.out rfl _ _ _
     have hgr:(w5).grownBy Wf (some (w.heap.size+1+1+1)):=by rw[hWf];exact grn
     have hbf:Below w.heap.size w Wf:=Below.grown (HBW.out.trans (HB5.out.mono hszW)) hgr (Nat.le_trans hszW hs5) (fun k hk=>by cases hk;omega)
     clear hWf z05 z15 z25 f05 f15 f25
     obtain⟨u0,u1,u2⟩:=cells3 hrow
     refine bodyPost_ret (v:=.tuple #[.int .i64 0,.agg #[.int .i64 0,.int .i64 0,.slice none 0 0],.slice none 0 0]) (by simp[results,Tryz.results61,go_sem,u0,u1,u2]) rfl ?_
     exact⟨_,_,_,rfl,hbf⟩
  ·have h0':(ye !=0)=true:=by simpa using h0
   have HO0:=hid (show learnedO ⟨st,id,req,L,cnt,tim,nak⟩ ⟨3,ii,li⟩=none by unfold learnedO;dsimp only;rw[hd];dsimp only;rw[if_pos (.inr h0)])
   rw[HO0.out]
   clear hd h1 h0 HO0
   go_enter Tryz.func61,Tryz.ntmps61
   go_upto_region 1 with(fail)
   refine boxes4 ?_
   rintro W2 ⟨h6,h7,h8,h12,hbw⟩
   have HBW:=hid hbw
   have H12:=hid h12
   have hszW:=hbw.size
   have l6:=lt_blk h6
   have l7:=lt_blk h7
   have l8:=lt_blk h8
   have l12:=lt_blk h12
   obtain⟨p0,p1,p2,p3,p4⟩:=cells5 h6
   obtain⟨q0,q1,q2,q3,q4,q5,q6⟩:=cells7 h7
   obtain⟨r0,r1,r2⟩:=cells3 h8
   obtain⟨z0,z1,z2⟩:=cells3 h12
   have f0:=frees h12 0
   have f1:=frees h12 1
   have f2:=frees h12 2
   clear h6 h7 h8 h12 hbw
   go_wp2_with fail
   refine(Op.dec_any Ai ni ci li _ B (by have:=HB.out;omega) (HI.out.keep (HBW.out.mono HB.out)) HNI.out hci).mono ?_
   rintro x w3 hd
   obtain⟨E3,A3,n3,c3,rfl,hb3,ho3,he3,hn3,hc3,hl3,hsd3⟩:=DecP.get hd HDR.out
   have HO3:=hid ho3
   have HE3:=hid he3
   have HN3:=hid hn3
   have HS3:=hid hsd3
   have HB3:=hid (show Below W2.heap.size W2 w3 from hb3)
   have hs3:=HB3.out.size
   have H123:=hid ((HB3.out.block _ l12).trans H12.out)
   obtain⟨⟨l73,l83,l123⟩,⟨t23,t33⟩,⟨v03,v13,v23⟩,⟨z03,z13,z23⟩,⟨f03,f13,f23⟩⟩:=afterK HB3.out l7 l8 l12 q2 q3 r0 r1 r2 H12.out
   clear hd hb3 ho3 he3 hn3 hsd3 p0 p1 p2 p3 p4 q0 q1 q4 q5 q6 z0 z1 z2 f0 f1 f2
   go_wp2_with fail
   obtain⟨Wf,hWf⟩: ∃Wf:World,Wf=(((w3.setCell ⟨w.heap.size+1+1+1,0,none⟩ (.int .i64 0)).setCell ⟨w.heap.size+1+1+1,1,none⟩ (.int .i64 0)).setCell ⟨w.heap.size+1+1+1,2,none⟩ (.slice none 0 0)):=⟨_,rfl⟩
   rw[←hWf]
   have hrow:Wf.heap[w.heap.size+1+1+1]? =some (.cells #[.int .i64 0,.int .i64 0,.slice none 0 0] 32 (0,0)):=by rw[hWf];exact row3 H123.out rfl _ _ _
   have hgr:(w3).grownBy Wf (some (w.heap.size+1+1+1)):=by rw[hWf];exact grn
   have hbf:Below w.heap.size w Wf:=Below.grown (HBW.out.trans (HB3.out.mono hszW)) hgr (Nat.le_trans hszW hs3) (fun k hk=>by cases hk;omega)
   clear hWf z03 z13 z23 f03 f13 f23
   obtain⟨u0,u1,u2⟩:=cells3 hrow
   refine bodyPost_ret (v:=.tuple #[.int .i64 0,.agg #[.int .i64 0,.int .i64 0,.slice none 0 0],.slice none 0 0]) (by simp[results,Tryz.results61,go_sem,u0,u1,u2]) rfl ?_
   exact⟨_,_,_,rfl,hbf⟩
 ·have h1':(ii !=req)=true:=by simpa using h1
  have HO0:=hid (show learnedO ⟨st,id,req,L,cnt,tim,nak⟩ ⟨3,ii,li⟩=none by unfold learnedO;rw[if_pos (.inl h1)])
  rw[HO0.out]
  clear hd h1 HO0
  go_enter Tryz.func61,Tryz.ntmps61
  go_upto_region 1 with(fail)
  refine boxes4 ?_
  rintro W2 ⟨h6,h7,h8,h12,hbw⟩
  have HBW:=hid hbw
  have H12:=hid h12
  have hszW:=hbw.size
  have l6:=lt_blk h6
  have l7:=lt_blk h7
  have l8:=lt_blk h8
  have l12:=lt_blk h12
  obtain⟨p0,p1,p2,p3,p4⟩:=cells5 h6
  obtain⟨q0,q1,q2,q3,q4,q5,q6⟩:=cells7 h7
  obtain⟨r0,r1,r2⟩:=cells3 h8
  obtain⟨z0,z1,z2⟩:=cells3 h12
  have f0:=frees h12 0
  have f1:=frees h12 1
  have f2:=frees h12 2
  clear h6 h7 h8 h12 hbw
  go_wp2_with fail
  refine(Op.dec_any Ai ni ci li _ B (by have:=HB.out;omega) (HI.out.keep (HBW.out.mono HB.out)) HNI.out hci).mono ?_
  rintro x w3 hd
  obtain⟨E3,A3,n3,c3,rfl,hb3,ho3,he3,hn3,hc3,hl3,hsd3⟩:=DecP.get hd HDR.out
  have HO3:=hid ho3
  have HE3:=hid he3
  have HN3:=hid hn3
  have HS3:=hid hsd3
  have HB3:=hid (show Below W2.heap.size W2 w3 from hb3)
  have hs3:=HB3.out.size
  have H123:=hid ((HB3.out.block _ l12).trans H12.out)
  obtain⟨⟨l73,l83,l123⟩,⟨t23,t33⟩,⟨v03,v13,v23⟩,⟨z03,z13,z23⟩,⟨f03,f13,f23⟩⟩:=afterK HB3.out l7 l8 l12 q2 q3 r0 r1 r2 H12.out
  clear hd hb3 ho3 he3 hn3 hsd3 p0 p1 p2 p3 p4 q0 q1 q4 q5 q6 z0 z1 z2 f0 f1 f2
  go_wp2_with fail
  obtain⟨Wf,hWf⟩: ∃Wf:World,Wf=(((w3.setCell ⟨w.heap.size+1+1+1,0,none⟩ (.int .i64 0)).setCell ⟨w.heap.size+1+1+1,1,none⟩ (.int .i64 0)).setCell ⟨w.heap.size+1+1+1,2,none⟩ (.slice none 0 0)):=⟨_,rfl⟩
  rw[←hWf]
  have hrow:Wf.heap[w.heap.size+1+1+1]? =some (.cells #[.int .i64 0,.int .i64 0,.slice none 0 0] 32 (0,0)):=by rw[hWf];exact row3 H123.out rfl _ _ _
  have hgr:(w3).grownBy Wf (some (w.heap.size+1+1+1)):=by rw[hWf];exact grn
  have hbf:Below w.heap.size w Wf:=Below.grown (HBW.out.trans (HB3.out.mono hszW)) hgr (Nat.le_trans hszW hs3) (fun k hk=>by cases hk;omega)
  clear hWf z03 z13 z23 f03 f13 f23
  obtain⟨u0,u1,u2⟩:=cells3 hrow
  refine bodyPost_ret (v:=.tuple #[.int .i64 0,.agg #[.int .i64 0,.int .i64 0,.slice none 0 0],.slice none 0 0]) (by simp[results,Tryz.results61,go_sem,u0,u1,u2]) rfl ?_
  exact⟨_,_,_,rfl,hbf⟩
set_option maxRecDepth 100000 in
theorem which_4 (Ar Aa Ai:Option Addr) (nr cr na ca ni ci:Nat) (R:List Rl) (mc mt mf wt st id req cnt tim nak ii:Int) (E:List Ent) (li:List UInt8) (w:World) (B:Nat) (hB:B≤w.heap.size) (hR:RulesAt w B Ar R) (hnr:nr=R.length) (hlr:nr≤1000000) (hE:OptsAt w B Aa E) (hna:na=E.length) (hla:na≤1000000) (hda: ∀e∈E,e.d.length≤1000000) (hI:At w B Ai (li.map bv)) (hni:ni=li.length) (hci:ni≤ci):Calls Tryz.prog 61 #[.agg #[.slice Ar nr cr,.int .i64 mc,.int .i64 mt,.int .i64 mf,.int .i64 wt],.agg #[.int .i64 st,.int .i64 id,.int .i64 req,.slice Aa na ca,.int .i64 cnt,.int .i64 tim,.int .i64 nak],.agg #[.int .i64 4,.int .i64 ii,.slice Ai ni ci]] w (WhichP (whichO ⟨R,mc,mt,mf,wt⟩ ⟨st,id,req,E.map Ent.o,cnt,tim,nak⟩ ⟨4,ii,li⟩) w):=by
 have HB:=hid hB
 have HR:=hid hR
 have HNR:=hid hnr
 have HE:=hid hE
 have HNA:=hid hna
 have HDA:=hid hda
 have HI:=hid hI
 have HNI:=hid hni
 obtain⟨L,hL⟩: ∃L,E.map Ent.o=L:=⟨_,rfl⟩
 have HL:=hid hL
 rw[hL]
 clear hB hR hnr hE hna hda hL hI hni
 have HO0:=hid (show whichO ⟨R,mc,mt,mf,wt⟩ ⟨st,id,req,L,cnt,tim,nak⟩ ⟨4,ii,li⟩=learnedO ⟨st,id,req,L,cnt,tim,nak⟩ ⟨4,ii,li⟩ from rfl)
 rw[HO0.out]
 clear HO0
 obtain⟨⟨Y,ye⟩,hd⟩: ∃r,Op.decR li=r:=⟨_,rfl⟩
 have HDR:=hid hd
 by_cases h1:ii=req
 ·have h1':(ii !=req)=false:=by simp[h1]
  by_cases h0:ye=0
  ·subst h0
   obtain⟨⟨nx,ok⟩,hln⟩: ∃r,learnO L 4 Y=r:=⟨_,rfl⟩
   have HLN:=hid hln
   obtain⟨⟨eb,ee⟩,hen⟩: ∃r,Op.encR nx=r:=⟨_,rfl⟩
   have HEN:=hid hen
   obtain⟨nb,hnb⟩: ∃nb,eb.length=nb:=⟨_,rfl⟩
   have HNB:=hid hnb
   have HO0:=hid (show learnedO ⟨st,id,req,L,cnt,tim,nak⟩ ⟨4,ii,li⟩=if ok=true∧ee=0 then some (10,⟨0,0,[]⟩,nx) else none by unfold learnedO;dsimp only;rw[hd];dsimp only;rw[if_neg (by simp[h1]),hln];dsimp only;rw[hen])
   rw[HO0.out]
   clear hd hln hen hnb h1 HO0
   cases ok
   ·rw[if_neg (by simp)]
    go_enter Tryz.func61,Tryz.ntmps61
    go_upto_region 1 with(fail)
    refine boxes4 ?_
    rintro W2 ⟨h6,h7,h8,h12,hbw⟩
    have HBW:=hid hbw
    have H12:=hid h12
    have hszW:=hbw.size
    have l6:=lt_blk h6
    have l7:=lt_blk h7
    have l8:=lt_blk h8
    have l12:=lt_blk h12
    obtain⟨p0,p1,p2,p3,p4⟩:=cells5 h6
    obtain⟨q0,q1,q2,q3,q4,q5,q6⟩:=cells7 h7
    obtain⟨r0,r1,r2⟩:=cells3 h8
    obtain⟨z0,z1,z2⟩:=cells3 h12
    have f0:=frees h12 0
    have f1:=frees h12 1
    have f2:=frees h12 2
    clear h6 h7 h8 h12 hbw
    go_wp2_with fail
    refine(Op.dec_any Ai ni ci li _ B (by have:=HB.out;omega) (HI.out.keep (HBW.out.mono HB.out)) HNI.out hci).mono ?_
    rintro x w3 hd
    obtain⟨E3,A3,n3,c3,rfl,hb3,ho3,he3,hn3,hc3,hl3,hsd3⟩:=DecP.get hd HDR.out
    have HO3:=hid ho3
    have HE3:=hid he3
    have HN3:=hid hn3
    have HS3:=hid hsd3
    have HB3:=hid (show Below W2.heap.size W2 w3 from hb3)
    have hs3:=HB3.out.size
    have H123:=hid ((HB3.out.block _ l12).trans H12.out)
    obtain⟨⟨l73,l83,l123⟩,⟨t23,t33⟩,⟨v03,v13,v23⟩,⟨z03,z13,z23⟩,⟨f03,f13,f23⟩⟩:=afterK HB3.out l7 l8 l12 q2 q3 r0 r1 r2 H12.out
    clear hd hb3 ho3 he3 hn3 hsd3 p0 p1 p2 p3 p4 q0 q1 q4 q5 q6 z0 z1 z2 f0 f1 f2
    go_wp2_with fail
    refine(Ne.learn_any Aa A3 na n3 ca c3 4 E E3 _ w3.heap.size (Nat.le_refl _) ((HE.out.keep ((HBW.out.trans (HB3.out.mono hszW)).mono HB.out)).more (by have:=HB.out;omega)) HO3.out.at HNA.out HN3.out hc3 hla (by omega) HDA.out (fun e he=>by have:=HS3.out e he;omega)).mono ?_
    rw[HL.out,HE3.out,HLN.out]
    rintro x w4 hl
    obtain⟨E4,A4,n4,c4,rfl,he4,hn4,hc4,hb4,ho4⟩:=Ne.RowsB.get hl
    have HO4:=hid ho4
    have HE4:=hid he4
    have HN4:=hid hn4
    have HB34:=hid hb4
    have HB4:=hid (show Below W2.heap.size W2 w4 from HB3.out.trans (hb4.mono hs3))
    have hs4:=HB4.out.size
    have H124:=hid ((HB4.out.block _ l12).trans H12.out)
    obtain⟨⟨l74,l84,l124⟩,⟨t24,t34⟩,⟨v04,v14,v24⟩,⟨z04,z14,z24⟩,⟨f04,f14,f24⟩⟩:=afterK HB4.out l7 l8 l12 q2 q3 r0 r1 r2 H12.out
    clear hl hb4 ho4 he4 hn4 z03 z13 z23 f03 f13 f23 t23 t33 v03 v13 v23
    go_wp2_with fail
    refine(Op.enc_any A4 n4 c4 E4 _ _ (Nat.le_refl _) HO4.out.at HN4.out).mono ?_
    rw[HE4.out]
    rintro x w5 he
    obtain⟨A5,c5,rfl,hb5,ho5,hc5⟩:=EncP.get he HEN.out HNB.out
    have HB45:=hid hb5
    have HB5:=hid (show Below W2.heap.size W2 w5 from HB4.out.trans (hb5.mono hs4))
    have hs5:=HB5.out.size
    have H125:=hid ((HB5.out.block _ l12).trans H12.out)
    obtain⟨⟨l75,l85,l125⟩,⟨t25,t35⟩,⟨v05,v15,v25⟩,⟨z05,z15,z25⟩,⟨f05,f15,f25⟩⟩:=afterK HB5.out l7 l8 l12 q2 q3 r0 r1 r2 H12.out
    clear he hb5 ho5 z04 z14 z24 f04 f14 f24 t24 t34 v04 v14 v24
    go_wp2_with fail
    obtain⟨Wf,hWf⟩: ∃Wf:World,Wf=(((w5.setCell ⟨w.heap.size+1+1+1,0,none⟩ (.int .i64 0)).setCell ⟨w.heap.size+1+1+1,1,none⟩ (.int .i64 0)).setCell ⟨w.heap.size+1+1+1,2,none⟩ (.slice none 0 0)):=⟨_,rfl⟩
    rw[←hWf]
    have hrow:Wf.heap[w.heap.size+1+1+1]? =some (.cells #[.int .i64 0,.int .i64 0,.slice none 0 0] 32 (0,0)):=by rw[hWf];exact row3 H125.out rfl _ _ _
    have hgr:(w5).grownBy Wf (some (w.heap.size+1+1+1)):=by rw[hWf];exact grn
    have hbf:Below w.heap.size w Wf:=Below.grown (HBW.out.trans (HB5.out.mono hszW)) hgr (Nat.le_trans hszW hs5) (fun k hk=>by cases hk;omega)
    clear hWf z05 z15 z25 f05 f15 f25
    obtain⟨u0,u1,u2⟩:=cells3 hrow
    refine bodyPost_ret (v:=.tuple #[.int .i64 0,.agg #[.int .i64 0,.int .i64 0,.slice none 0 0],.slice none 0 0]) (by simp[results,Tryz.results61,go_sem,u0,u1,u2]) rfl ?_
    exact⟨_,_,_,rfl,hbf⟩
   ·by_cases h5:ee=0
    ·subst h5
     rw[if_pos ⟨rfl,rfl⟩]
     go_enter Tryz.func61,Tryz.ntmps61
     go_upto_region 1 with(fail)
     refine boxes4 ?_
     rintro W2 ⟨h6,h7,h8,h12,hbw⟩
     have HBW:=hid hbw
     have H12:=hid h12
     have hszW:=hbw.size
     have l6:=lt_blk h6
     have l7:=lt_blk h7
     have l8:=lt_blk h8
     have l12:=lt_blk h12
     obtain⟨p0,p1,p2,p3,p4⟩:=cells5 h6
     obtain⟨q0,q1,q2,q3,q4,q5,q6⟩:=cells7 h7
     obtain⟨r0,r1,r2⟩:=cells3 h8
     obtain⟨z0,z1,z2⟩:=cells3 h12
     have f0:=frees h12 0
     have f1:=frees h12 1
     have f2:=frees h12 2
     clear h6 h7 h8 h12 hbw
     go_wp2_with fail
     refine(Op.dec_any Ai ni ci li _ B (by have:=HB.out;omega) (HI.out.keep (HBW.out.mono HB.out)) HNI.out hci).mono ?_
     rintro x w3 hd
     obtain⟨E3,A3,n3,c3,rfl,hb3,ho3,he3,hn3,hc3,hl3,hsd3⟩:=DecP.get hd HDR.out
     have HO3:=hid ho3
     have HE3:=hid he3
     have HN3:=hid hn3
     have HS3:=hid hsd3
     have HB3:=hid (show Below W2.heap.size W2 w3 from hb3)
     have hs3:=HB3.out.size
     have H123:=hid ((HB3.out.block _ l12).trans H12.out)
     obtain⟨⟨l73,l83,l123⟩,⟨t23,t33⟩,⟨v03,v13,v23⟩,⟨z03,z13,z23⟩,⟨f03,f13,f23⟩⟩:=afterK HB3.out l7 l8 l12 q2 q3 r0 r1 r2 H12.out
     clear hd hb3 ho3 he3 hn3 hsd3 p0 p1 p2 p3 p4 q0 q1 q4 q5 q6 z0 z1 z2 f0 f1 f2
     go_wp2_with fail
     refine(Ne.learn_any Aa A3 na n3 ca c3 4 E E3 _ w3.heap.size (Nat.le_refl _) ((HE.out.keep ((HBW.out.trans (HB3.out.mono hszW)).mono HB.out)).more (by have:=HB.out;omega)) HO3.out.at HNA.out HN3.out hc3 hla (by omega) HDA.out (fun e he=>by have:=HS3.out e he;omega)).mono ?_
     rw[HL.out,HE3.out,HLN.out]
     rintro x w4 hl
     obtain⟨E4,A4,n4,c4,rfl,he4,hn4,hc4,hb4,ho4⟩:=Ne.RowsB.get hl
     have HO4:=hid ho4
     have HE4:=hid he4
     have HN4:=hid hn4
     have HB34:=hid hb4
     have HB4:=hid (show Below W2.heap.size W2 w4 from HB3.out.trans (hb4.mono hs3))
     have hs4:=HB4.out.size
     have H124:=hid ((HB4.out.block _ l12).trans H12.out)
     obtain⟨⟨l74,l84,l124⟩,⟨t24,t34⟩,⟨v04,v14,v24⟩,⟨z04,z14,z24⟩,⟨f04,f14,f24⟩⟩:=afterK HB4.out l7 l8 l12 q2 q3 r0 r1 r2 H12.out
     clear hl hb4 ho4 he4 hn4 z03 z13 z23 f03 f13 f23 t23 t33 v03 v13 v23
     go_wp2_with fail
     refine(Op.enc_any A4 n4 c4 E4 _ _ (Nat.le_refl _) HO4.out.at HN4.out).mono ?_
     rw[HE4.out]
     rintro x w5 he
     obtain⟨A5,c5,rfl,hb5,ho5,hc5⟩:=EncP.get he HEN.out HNB.out
     have HB45:=hid hb5
     have HB5:=hid (show Below W2.heap.size W2 w5 from HB4.out.trans (hb5.mono hs4))
     have hs5:=HB5.out.size
     have H125:=hid ((HB5.out.block _ l12).trans H12.out)
     obtain⟨⟨l75,l85,l125⟩,⟨t25,t35⟩,⟨v05,v15,v25⟩,⟨z05,z15,z25⟩,⟨f05,f15,f25⟩⟩:=afterK HB5.out l7 l8 l12 q2 q3 r0 r1 r2 H12.out
     clear he hb5 ho5 z04 z14 z24 f04 f14 f24 t24 t34 v04 v14 v24
     go_wp2_with fail
     obtain⟨Wf,hWf⟩: ∃Wf:World,Wf=(((w5.setCell ⟨w.heap.size+1+1+1,0,none⟩ (.int .i64 0)).setCell ⟨w.heap.size+1+1+1,1,none⟩ (.int .i64 0)).setCell ⟨w.heap.size+1+1+1,2,none⟩ (.slice none 0 0)):=⟨_,rfl⟩
     rw[←hWf]
     have hrow:Wf.heap[w.heap.size+1+1+1]? =some (.cells #[.int .i64 0,.int .i64 0,.slice none 0 0] 32 (0,0)):=by rw[hWf];exact row3 H125.out rfl _ _ _
     have hgr:(w5).grownBy Wf (some (w.heap.size+1+1+1)):=by rw[hWf];exact grn
     have hbf:Below w.heap.size w Wf:=Below.grown (HBW.out.trans (HB5.out.mono hszW)) hgr (Nat.le_trans hszW hs5) (fun k hk=>by cases hk;omega)
     clear hWf z05 z15 z25 f05 f15 f25
     obtain⟨u0,u1,u2⟩:=cells3 hrow
     refine bodyPost_ret (v:=.tuple #[.int .i64 10,.agg #[.int .i64 0,.int .i64 0,.slice none 0 0],.slice A4 n4 c4]) (by simp[results,Tryz.results61,go_sem,u0,u1,u2]) rfl ?_
     exact⟨none,0,0,A4,n4,c4,rfl,hbf,BytesO.nil _ _,fun _=>((OwnOpts.otherx (⟨E4,HO4.out.below HB45.out,HE4.out⟩:OptsO _ _ _ nx) hgr H125.out (by decide) (by decide))).base (Nat.le_trans hszW hs3)⟩
    ·have h5':(ee==0)=false:=by simpa using h5
     rw[if_neg (fun h=>h5 h.2)]
     clear h5
     go_enter Tryz.func61,Tryz.ntmps61
     go_upto_region 1 with(fail)
     refine boxes4 ?_
     rintro W2 ⟨h6,h7,h8,h12,hbw⟩
     have HBW:=hid hbw
     have H12:=hid h12
     have hszW:=hbw.size
     have l6:=lt_blk h6
     have l7:=lt_blk h7
     have l8:=lt_blk h8
     have l12:=lt_blk h12
     obtain⟨p0,p1,p2,p3,p4⟩:=cells5 h6
     obtain⟨q0,q1,q2,q3,q4,q5,q6⟩:=cells7 h7
     obtain⟨r0,r1,r2⟩:=cells3 h8
     obtain⟨z0,z1,z2⟩:=cells3 h12
     have f0:=frees h12 0
     have f1:=frees h12 1
     have f2:=frees h12 2
     clear h6 h7 h8 h12 hbw
     go_wp2_with fail
     refine(Op.dec_any Ai ni ci li _ B (by have:=HB.out;omega) (HI.out.keep (HBW.out.mono HB.out)) HNI.out hci).mono ?_
     rintro x w3 hd
     obtain⟨E3,A3,n3,c3,rfl,hb3,ho3,he3,hn3,hc3,hl3,hsd3⟩:=DecP.get hd HDR.out
     have HO3:=hid ho3
     have HE3:=hid he3
     have HN3:=hid hn3
     have HS3:=hid hsd3
     have HB3:=hid (show Below W2.heap.size W2 w3 from hb3)
     have hs3:=HB3.out.size
     have H123:=hid ((HB3.out.block _ l12).trans H12.out)
     obtain⟨⟨l73,l83,l123⟩,⟨t23,t33⟩,⟨v03,v13,v23⟩,⟨z03,z13,z23⟩,⟨f03,f13,f23⟩⟩:=afterK HB3.out l7 l8 l12 q2 q3 r0 r1 r2 H12.out
     clear hd hb3 ho3 he3 hn3 hsd3 p0 p1 p2 p3 p4 q0 q1 q4 q5 q6 z0 z1 z2 f0 f1 f2
     go_wp2_with fail
     refine(Ne.learn_any Aa A3 na n3 ca c3 4 E E3 _ w3.heap.size (Nat.le_refl _) ((HE.out.keep ((HBW.out.trans (HB3.out.mono hszW)).mono HB.out)).more (by have:=HB.out;omega)) HO3.out.at HNA.out HN3.out hc3 hla (by omega) HDA.out (fun e he=>by have:=HS3.out e he;omega)).mono ?_
     rw[HL.out,HE3.out,HLN.out]
     rintro x w4 hl
     obtain⟨E4,A4,n4,c4,rfl,he4,hn4,hc4,hb4,ho4⟩:=Ne.RowsB.get hl
     have HO4:=hid ho4
     have HE4:=hid he4
     have HN4:=hid hn4
     have HB34:=hid hb4
     have HB4:=hid (show Below W2.heap.size W2 w4 from HB3.out.trans (hb4.mono hs3))
     have hs4:=HB4.out.size
     have H124:=hid ((HB4.out.block _ l12).trans H12.out)
     obtain⟨⟨l74,l84,l124⟩,⟨t24,t34⟩,⟨v04,v14,v24⟩,⟨z04,z14,z24⟩,⟨f04,f14,f24⟩⟩:=afterK HB4.out l7 l8 l12 q2 q3 r0 r1 r2 H12.out
     clear hl hb4 ho4 he4 hn4 z03 z13 z23 f03 f13 f23 t23 t33 v03 v13 v23
     go_wp2_with fail
     refine(Op.enc_any A4 n4 c4 E4 _ _ (Nat.le_refl _) HO4.out.at HN4.out).mono ?_
     rw[HE4.out]
     rintro x w5 he
     obtain⟨A5,c5,rfl,hb5,ho5,hc5⟩:=EncP.get he HEN.out HNB.out
     have HB45:=hid hb5
     have HB5:=hid (show Below W2.heap.size W2 w5 from HB4.out.trans (hb5.mono hs4))
     have hs5:=HB5.out.size
     have H125:=hid ((HB5.out.block _ l12).trans H12.out)
     obtain⟨⟨l75,l85,l125⟩,⟨t25,t35⟩,⟨v05,v15,v25⟩,⟨z05,z15,z25⟩,⟨f05,f15,f25⟩⟩:=afterK HB5.out l7 l8 l12 q2 q3 r0 r1 r2 H12.out
     clear he hb5 ho5 z04 z14 z24 f04 f14 f24 t24 t34 v04 v14 v24
     go_wp2_with fail
     obtain⟨Wf,hWf⟩: ∃Wf:World,Wf=(((w5.setCell ⟨w.heap.size+1+1+1,0,none⟩ (.int .i64 0)).setCell ⟨w.heap.size+1+1+1,1,none⟩ (.int .i64 0)).setCell ⟨w.heap.size+1+1+1,2,none⟩ (.slice none 0 0)):=⟨_,rfl⟩
     rw[←hWf]
     have hrow:Wf.heap[w.heap.size+1+1+1]? =some (.cells #[.int .i64 0,.int .i64 0,.slice none 0 0] 32 (0,0)):=by rw[hWf];exact row3 H125.out rfl _ _ _
     have hgr:(w5).grownBy Wf (some (w.heap.size+1+1+1)):=by rw[hWf];exact grn
     have hbf:Below w.heap.size w Wf:=Below.grown (HBW.out.trans (HB5.out.mono hszW)) hgr (Nat.le_trans hszW hs5) (fun k hk=>by cases hk;omega)
     clear hWf z05 z15 z25 f05 f15 f25
     obtain⟨u0,u1,u2⟩:=cells3 hrow
     refine bodyPost_ret (v:=.tuple #[.int .i64 0,.agg #[.int .i64 0,.int .i64 0,.slice none 0 0],.slice none 0 0]) (by simp[results,Tryz.results61,go_sem,u0,u1,u2]) rfl ?_
     exact⟨_,_,_,rfl,hbf⟩
  ·have h0':(ye !=0)=true:=by simpa using h0
   have HO0:=hid (show learnedO ⟨st,id,req,L,cnt,tim,nak⟩ ⟨4,ii,li⟩=none by unfold learnedO;dsimp only;rw[hd];dsimp only;rw[if_pos (.inr h0)])
   rw[HO0.out]
   clear hd h1 h0 HO0
   go_enter Tryz.func61,Tryz.ntmps61
   go_upto_region 1 with(fail)
   refine boxes4 ?_
   rintro W2 ⟨h6,h7,h8,h12,hbw⟩
   have HBW:=hid hbw
   have H12:=hid h12
   have hszW:=hbw.size
   have l6:=lt_blk h6
   have l7:=lt_blk h7
   have l8:=lt_blk h8
   have l12:=lt_blk h12
   obtain⟨p0,p1,p2,p3,p4⟩:=cells5 h6
   obtain⟨q0,q1,q2,q3,q4,q5,q6⟩:=cells7 h7
   obtain⟨r0,r1,r2⟩:=cells3 h8
   obtain⟨z0,z1,z2⟩:=cells3 h12
   have f0:=frees h12 0
   have f1:=frees h12 1
   have f2:=frees h12 2
   clear h6 h7 h8 h12 hbw
   go_wp2_with fail
   refine(Op.dec_any Ai ni ci li _ B (by have:=HB.out;omega) (HI.out.keep (HBW.out.mono HB.out)) HNI.out hci).mono ?_
   rintro x w3 hd
   obtain⟨E3,A3,n3,c3,rfl,hb3,ho3,he3,hn3,hc3,hl3,hsd3⟩:=DecP.get hd HDR.out
   have HO3:=hid ho3
   have HE3:=hid he3
   have HN3:=hid hn3
   have HS3:=hid hsd3
   have HB3:=hid (show Below W2.heap.size W2 w3 from hb3)
   have hs3:=HB3.out.size
   have H123:=hid ((HB3.out.block _ l12).trans H12.out)
   obtain⟨⟨l73,l83,l123⟩,⟨t23,t33⟩,⟨v03,v13,v23⟩,⟨z03,z13,z23⟩,⟨f03,f13,f23⟩⟩:=afterK HB3.out l7 l8 l12 q2 q3 r0 r1 r2 H12.out
   clear hd hb3 ho3 he3 hn3 hsd3 p0 p1 p2 p3 p4 q0 q1 q4 q5 q6 z0 z1 z2 f0 f1 f2
   go_wp2_with fail
   obtain⟨Wf,hWf⟩: ∃Wf:World,Wf=(((w3.setCell ⟨w.heap.size+1+1+1,0,none⟩ (.int .i64 0)).setCell ⟨w.heap.size+1+1+1,1,none⟩ (.int .i64 0)).setCell ⟨w.heap.size+1+1+1,2,none⟩ (.slice none 0 0)):=⟨_,rfl⟩
   rw[←hWf]
   have hrow:Wf.heap[w.heap.size+1+1+1]? =some (.cells #[.int .i64 0,.int .i64 0,.slice none 0 0] 32 (0,0)):=by rw[hWf];exact row3 H123.out rfl _ _ _
   have hgr:(w3).grownBy Wf (some (w.heap.size+1+1+1)):=by rw[hWf];exact grn
   have hbf:Below w.heap.size w Wf:=Below.grown (HBW.out.trans (HB3.out.mono hszW)) hgr (Nat.le_trans hszW hs3) (fun k hk=>by cases hk;omega)
   clear hWf z03 z13 z23 f03 f13 f23
   obtain⟨u0,u1,u2⟩:=cells3 hrow
   refine bodyPost_ret (v:=.tuple #[.int .i64 0,.agg #[.int .i64 0,.int .i64 0,.slice none 0 0],.slice none 0 0]) (by simp[results,Tryz.results61,go_sem,u0,u1,u2]) rfl ?_
   exact⟨_,_,_,rfl,hbf⟩
 ·have h1':(ii !=req)=true:=by simpa using h1
  have HO0:=hid (show learnedO ⟨st,id,req,L,cnt,tim,nak⟩ ⟨4,ii,li⟩=none by unfold learnedO;rw[if_pos (.inl h1)])
  rw[HO0.out]
  clear hd h1 HO0
  go_enter Tryz.func61,Tryz.ntmps61
  go_upto_region 1 with(fail)
  refine boxes4 ?_
  rintro W2 ⟨h6,h7,h8,h12,hbw⟩
  have HBW:=hid hbw
  have H12:=hid h12
  have hszW:=hbw.size
  have l6:=lt_blk h6
  have l7:=lt_blk h7
  have l8:=lt_blk h8
  have l12:=lt_blk h12
  obtain⟨p0,p1,p2,p3,p4⟩:=cells5 h6
  obtain⟨q0,q1,q2,q3,q4,q5,q6⟩:=cells7 h7
  obtain⟨r0,r1,r2⟩:=cells3 h8
  obtain⟨z0,z1,z2⟩:=cells3 h12
  have f0:=frees h12 0
  have f1:=frees h12 1
  have f2:=frees h12 2
  clear h6 h7 h8 h12 hbw
  go_wp2_with fail
  refine(Op.dec_any Ai ni ci li _ B (by have:=HB.out;omega) (HI.out.keep (HBW.out.mono HB.out)) HNI.out hci).mono ?_
  rintro x w3 hd
  obtain⟨E3,A3,n3,c3,rfl,hb3,ho3,he3,hn3,hc3,hl3,hsd3⟩:=DecP.get hd HDR.out
  have HO3:=hid ho3
  have HE3:=hid he3
  have HN3:=hid hn3
  have HS3:=hid hsd3
  have HB3:=hid (show Below W2.heap.size W2 w3 from hb3)
  have hs3:=HB3.out.size
  have H123:=hid ((HB3.out.block _ l12).trans H12.out)
  obtain⟨⟨l73,l83,l123⟩,⟨t23,t33⟩,⟨v03,v13,v23⟩,⟨z03,z13,z23⟩,⟨f03,f13,f23⟩⟩:=afterK HB3.out l7 l8 l12 q2 q3 r0 r1 r2 H12.out
  clear hd hb3 ho3 he3 hn3 hsd3 p0 p1 p2 p3 p4 q0 q1 q4 q5 q6 z0 z1 z2 f0 f1 f2
  go_wp2_with fail
  obtain⟨Wf,hWf⟩: ∃Wf:World,Wf=(((w3.setCell ⟨w.heap.size+1+1+1,0,none⟩ (.int .i64 0)).setCell ⟨w.heap.size+1+1+1,1,none⟩ (.int .i64 0)).setCell ⟨w.heap.size+1+1+1,2,none⟩ (.slice none 0 0)):=⟨_,rfl⟩
  rw[←hWf]
  have hrow:Wf.heap[w.heap.size+1+1+1]? =some (.cells #[.int .i64 0,.int .i64 0,.slice none 0 0] 32 (0,0)):=by rw[hWf];exact row3 H123.out rfl _ _ _
  have hgr:(w3).grownBy Wf (some (w.heap.size+1+1+1)):=by rw[hWf];exact grn
  have hbf:Below w.heap.size w Wf:=Below.grown (HBW.out.trans (HB3.out.mono hszW)) hgr (Nat.le_trans hszW hs3) (fun k hk=>by cases hk;omega)
  clear hWf z03 z13 z23 f03 f13 f23
  obtain⟨u0,u1,u2⟩:=cells3 hrow
  refine bodyPost_ret (v:=.tuple #[.int .i64 0,.agg #[.int .i64 0,.int .i64 0,.slice none 0 0],.slice none 0 0]) (by simp[results,Tryz.results61,go_sem,u0,u1,u2]) rfl ?_
  exact⟨_,_,_,rfl,hbf⟩
set_option maxRecDepth 100000 in
theorem which_7 (Ar Aa Ai:Option Addr) (nr cr na ca ni ci:Nat) (R:List Rl) (mc mt mf wt st id req cnt tim nak ii:Int) (E:List Ent) (li:List UInt8) (w:World) (B:Nat) (hB:B≤w.heap.size) (hR:RulesAt w B Ar R) (hnr:nr=R.length) (hlr:nr≤1000000) (hE:OptsAt w B Aa E) (hna:na=E.length) (hla:na≤1000000) (hda: ∀e∈E,e.d.length≤1000000) (hI:At w B Ai (li.map bv)) (hni:ni=li.length) (hci:ni≤ci):Calls Tryz.prog 61 #[.agg #[.slice Ar nr cr,.int .i64 mc,.int .i64 mt,.int .i64 mf,.int .i64 wt],.agg #[.int .i64 st,.int .i64 id,.int .i64 req,.slice Aa na ca,.int .i64 cnt,.int .i64 tim,.int .i64 nak],.agg #[.int .i64 7,.int .i64 ii,.slice Ai ni ci]] w (WhichP (whichO ⟨R,mc,mt,mf,wt⟩ ⟨st,id,req,E.map Ent.o,cnt,tim,nak⟩ ⟨7,ii,li⟩) w):=by
 have HB:=hid hB
 have HR:=hid hR
 have HNR:=hid hnr
 have HE:=hid hE
 have HNA:=hid hna
 have HDA:=hid hda
 have HI:=hid hI
 have HNI:=hid hni
 obtain⟨L,hL⟩: ∃L,E.map Ent.o=L:=⟨_,rfl⟩
 have HL:=hid hL
 rw[hL]
 clear hB hR hnr hE hna hda hL hI hni
 by_cases hl:li=[]
 ·have e0:((ni:Int)==0)=true:=by have:=HNI.out;rw[hl] at this;simp at this;simp[this]
  have HO:=hid (show whichO ⟨R,mc,mt,mf,wt⟩ ⟨st,id,req,L,cnt,tim,nak⟩ ⟨7,ii,li⟩=none by rw[hl];rfl)
  rw[HO.out]
  clear hl
  go_enter Tryz.func61,Tryz.ntmps61
  go_upto_region 1 with(fail)
  refine boxes4 ?_
  rintro W2 ⟨h6,h7,h8,h12,hbw⟩
  have HBW:=hid hbw
  have H12:=hid h12
  have hszW:=hbw.size
  have l6:=lt_blk h6
  have l7:=lt_blk h7
  have l8:=lt_blk h8
  have l12:=lt_blk h12
  obtain⟨p0,p1,p2,p3,p4⟩:=cells5 h6
  obtain⟨q0,q1,q2,q3,q4,q5,q6⟩:=cells7 h7
  obtain⟨r0,r1,r2⟩:=cells3 h8
  obtain⟨z0,z1,z2⟩:=cells3 h12
  have f0:=frees h12 0
  have f1:=frees h12 1
  have f2:=frees h12 2
  clear h6 h7 h8 h12 hbw
  go_wp2_with fail
  obtain⟨Wf,hWf⟩: ∃Wf:World,Wf=(((W2.setCell ⟨w.heap.size+1+1+1,0,none⟩ (.int .i64 0)).setCell ⟨w.heap.size+1+1+1,1,none⟩ (.int .i64 0)).setCell ⟨w.heap.size+1+1+1,2,none⟩ (.slice none 0 0)):=⟨_,rfl⟩
  rw[←hWf]
  have hrow:Wf.heap[w.heap.size+1+1+1]? =some (.cells #[.int .i64 0,.int .i64 0,.slice none 0 0] 32 (0,0)):=by rw[hWf];exact row3 H12.out rfl _ _ _
  have hgr:(W2).grownBy Wf (some (w.heap.size+1+1+1)):=by rw[hWf];first|with_reducible exact grown_exts grn (by simp)|exact grn
  have hbf:Below w.heap.size w Wf:=Below.grown (by have:=HBW.out;exact bel) hgr (by first|exact hszW|(simp[size_ext,grow];omega)) (fun k hk=>by cases hk;omega)
  clear hWf f0 f1 f2 z0 z1 z2
  obtain⟨u0,u1,u2⟩:=cells3 hrow
  refine bodyPost_ret (v:=.tuple #[.int .i64 0,.agg #[.int .i64 0,.int .i64 0,.slice none 0 0],.slice none 0 0]) (by simp[results,Tryz.results61,go_sem,u0,u1,u2]) rfl ?_
  exact⟨_,_,_,rfl,hbf⟩
 ·obtain⟨x,r,hl2⟩:=List.exists_cons_of_ne_nil hl
  obtain⟨b,o,hAi,hbB,hcc⟩:=HI.out.get (by rw[hl2];simp)
  have HX:=hid (hcc 0 (bv x) (by rw[hl2];rfl))
  clear hcc
  obtain⟨xn,hxn⟩: ∃xn:Nat,x.toNat=xn:=⟨_,rfl⟩
  have hx256:xn<256:=by have:=x.toNat_lt;omega
  have hbv:bv x=.int .u8 (xn:Int):=by rw[←hxn];rfl
  rw[hbv] at HX
  have jj0:(0:Int)<(ni:Int):=by have:=HNI.out;rw[hl2] at this;simp at this;omega
  have e0:((ni:Int)==0)=false:=by simp;omega
  have e1:IntKind.i64.wrap (xn:Int)=(xn:Int):=IntWalk.i64_in _ (by omega)
  have HO0:=hid (show whichO ⟨R,mc,mt,mf,wt⟩ ⟨st,id,req,L,cnt,tim,nak⟩ ⟨7,ii,li⟩=if 1≤xn∧xn≤7 then some (15,⟨0,0,[]⟩,L) else some (14,⟨0,0,[]⟩,L) by rw[hl2,←hxn];rfl)
  rw[HO0.out]
  have HAI:=hid hAi
  clear HO0 hbv hxn hl hl2 hAi
  by_cases h17:1≤xn∧xn≤7
  ·rw[if_pos h17]
   have HIN:=hid (show inB (xn:Int) 1 7=true by simp[inB];omega)
   clear h17
   go_enter Tryz.func61,Tryz.ntmps61
   go_upto_region 1 with(fail)
   refine boxes4 ?_
   rintro W2 ⟨h6,h7,h8,h12,hbw⟩
   have HBW:=hid hbw
   have H12:=hid h12
   have hszW:=hbw.size
   have l6:=lt_blk h6
   have l7:=lt_blk h7
   have l8:=lt_blk h8
   have l12:=lt_blk h12
   obtain⟨p0,p1,p2,p3,p4⟩:=cells5 h6
   obtain⟨q0,q1,q2,q3,q4,q5,q6⟩:=cells7 h7
   obtain⟨r0,r1,r2⟩:=cells3 h8
   obtain⟨z0,z1,z2⟩:=cells3 h12
   have f0:=frees h12 0
   have f1:=frees h12 1
   have f2:=frees h12 2
   clear h6 h7 h8 h12 hbw
   have hAi:=HAI.out
   subst hAi
   have hbz:b<W2.heap.size:=by have:=HB.out;omega
   have cx:W2.cell? ⟨b,o+0,none⟩=some (.int .u8 (xn:Int)):=(HBW.out.cell (p:=⟨b,o+0,none⟩) (by have:=HB.out;show b<_;omega)).trans HX.out
   simp only[Nat.add_zero] at cx
   go_wp2_with (go_at_call 59;refine(within_t _ _ _ _ HIN.out).mono ?_;rintro e w1 ⟨rfl,rfl⟩)
   obtain⟨Wf,hWf⟩: ∃Wf:World,Wf=(((W2.setCell ⟨w.heap.size+1+1+1,0,none⟩ (.int .i64 0)).setCell ⟨w.heap.size+1+1+1,1,none⟩ (.int .i64 0)).setCell ⟨w.heap.size+1+1+1,2,none⟩ (.slice none 0 0)):=⟨_,rfl⟩
   rw[←hWf]
   have hrow:Wf.heap[w.heap.size+1+1+1]? =some (.cells #[.int .i64 0,.int .i64 0,.slice none 0 0] 32 (0,0)):=by rw[hWf];exact row3 H12.out rfl _ _ _
   have hgr:(W2).grownBy Wf (some (w.heap.size+1+1+1)):=by rw[hWf];first|with_reducible exact grown_exts grn (by simp)|exact grn
   have hbf:Below w.heap.size w Wf:=Below.grown (by have:=HBW.out;exact bel) hgr (by first|exact hszW|(simp[size_ext,grow];omega)) (fun k hk=>by cases hk;omega)
   clear hWf f0 f1 f2 z0 z1 z2
   obtain⟨u0,u1,u2⟩:=cells3 hrow
   refine bodyPost_ret (v:=.tuple #[.int .i64 15,.agg #[.int .i64 0,.int .i64 0,.slice none 0 0],.slice none 0 0]) (by simp[results,Tryz.results61,go_sem,u0,u1,u2]) rfl ?_
   exact⟨none,0,0,none,0,0,rfl,hbf,BytesO.nil _ _,fun h=>by cases h⟩
  ·rw[if_neg h17]
   have HIN:=hid (show inB (xn:Int) 1 7=false by simp[inB];omega)
   clear h17
   go_enter Tryz.func61,Tryz.ntmps61
   go_upto_region 1 with(fail)
   refine boxes4 ?_
   rintro W2 ⟨h6,h7,h8,h12,hbw⟩
   have HBW:=hid hbw
   have H12:=hid h12
   have hszW:=hbw.size
   have l6:=lt_blk h6
   have l7:=lt_blk h7
   have l8:=lt_blk h8
   have l12:=lt_blk h12
   obtain⟨p0,p1,p2,p3,p4⟩:=cells5 h6
   obtain⟨q0,q1,q2,q3,q4,q5,q6⟩:=cells7 h7
   obtain⟨r0,r1,r2⟩:=cells3 h8
   obtain⟨z0,z1,z2⟩:=cells3 h12
   have f0:=frees h12 0
   have f1:=frees h12 1
   have f2:=frees h12 2
   clear h6 h7 h8 h12 hbw
   have hAi:=HAI.out
   subst hAi
   have hbz:b<W2.heap.size:=by have:=HB.out;omega
   have cx:W2.cell? ⟨b,o+0,none⟩=some (.int .u8 (xn:Int)):=(HBW.out.cell (p:=⟨b,o+0,none⟩) (by have:=HB.out;show b<_;omega)).trans HX.out
   simp only[Nat.add_zero] at cx
   go_wp2_with (go_at_call 59;refine(within_f _ _ _ _ HIN.out).mono ?_;rintro e w1 ⟨rfl,rfl⟩)
   obtain⟨Wf,hWf⟩: ∃Wf:World,Wf=(((W2.setCell ⟨w.heap.size+1+1+1,0,none⟩ (.int .i64 0)).setCell ⟨w.heap.size+1+1+1,1,none⟩ (.int .i64 0)).setCell ⟨w.heap.size+1+1+1,2,none⟩ (.slice none 0 0)):=⟨_,rfl⟩
   rw[←hWf]
   have hrow:Wf.heap[w.heap.size+1+1+1]? =some (.cells #[.int .i64 0,.int .i64 0,.slice none 0 0] 32 (0,0)):=by rw[hWf];exact row3 H12.out rfl _ _ _
   have hgr:(W2).grownBy Wf (some (w.heap.size+1+1+1)):=by rw[hWf];first|with_reducible exact grown_exts grn (by simp)|exact grn
   have hbf:Below w.heap.size w Wf:=Below.grown (by have:=HBW.out;exact bel) hgr (by first|exact hszW|(simp[size_ext,grow];omega)) (fun k hk=>by cases hk;omega)
   clear hWf f0 f1 f2 z0 z1 z2
   obtain⟨u0,u1,u2⟩:=cells3 hrow
   refine bodyPost_ret (v:=.tuple #[.int .i64 14,.agg #[.int .i64 0,.int .i64 0,.slice none 0 0],.slice none 0 0]) (by simp[results,Tryz.results61,go_sem,u0,u1,u2]) rfl ?_
   exact⟨none,0,0,none,0,0,rfl,hbf,BytesO.nil _ _,fun h=>by cases h⟩
theorem which_any (ic:Int) (h1:1≤ic) (h7:ic≤7) (Ar Aa Ai:Option Addr) (nr cr na ca ni ci:Nat) (R:List Rl) (mc mt mf wt st id req cnt tim nak ii:Int) (E:List Ent) (li:List UInt8) (w:World) (B:Nat) (hB:B≤w.heap.size) (hR:RulesAt w B Ar R) (hnr:nr=R.length) (hlr:nr≤1000000) (hE:OptsAt w B Aa E) (hna:na=E.length) (hla:na≤1000000) (hda: ∀e∈E,e.d.length≤1000000) (hI:At w B Ai (li.map bv)) (hni:ni=li.length) (hci:ni≤ci):Calls Tryz.prog 61 #[.agg #[.slice Ar nr cr,.int .i64 mc,.int .i64 mt,.int .i64 mf,.int .i64 wt],.agg #[.int .i64 st,.int .i64 id,.int .i64 req,.slice Aa na ca,.int .i64 cnt,.int .i64 tim,.int .i64 nak],.agg #[.int .i64 ic,.int .i64 ii,.slice Ai ni ci]] w (WhichP (whichO ⟨R,mc,mt,mf,wt⟩ ⟨st,id,req,E.map Ent.o,cnt,tim,nak⟩ ⟨ic,ii,li⟩) w):=by
 have h:ic=1∨ic=2∨ic=3∨ic=4∨ic=5∨ic=6∨ic=7:=by omega
 rcases h with rfl|rfl|rfl|rfl|rfl|rfl|rfl
 ·exact which_1 Ar Aa Ai nr cr na ca ni ci R mc mt mf wt st id req cnt tim nak ii E li w B hB hR hnr hlr hE hna hla hda hI hni hci
 ·exact which_2 Ar Aa Ai nr cr na ca ni ci R mc mt mf wt st id req cnt tim nak ii E li w B hB hR hnr hlr hE hna hla hda hI hni hci
 ·exact which_3 Ar Aa Ai nr cr na ca ni ci R mc mt mf wt st id req cnt tim nak ii E li w B hB hR hnr hlr hE hna hla hda hI hni hci
 ·exact which_4 Ar Aa Ai nr cr na ca ni ci R mc mt mf wt st id req cnt tim nak ii E li w B hB hR hnr hlr hE hna hla hda hI hni hci
 ·exact which_5 Ar Aa Ai nr cr na ca ni ci R mc mt mf wt st id req cnt tim nak ii E li w B hB hR hnr hlr hE hna hla hda hI hni hci
 ·exact which_6 Ar Aa Ai nr cr na ca ni ci R mc mt mf wt st id req cnt tim nak ii E li w B hB hR hnr hlr hE hna hla hda hI hni hci
 ·exact which_7 Ar Aa Ai nr cr na ca ni ci R mc mt mf wt st id req cnt tim nak ii E li w B hB hR hnr hlr hE hna hla hda hI hni hci
end Go.Proofs.YtfkgmbknfnhjoaaGreat
namespace Go.Proofs.YtfkgmbknfnhjoaaGreat
open Lib (hid)
open Go.RowKit
set_option linter.unusedSimpArgs false
set_option linter.unusedVariables false
set_option linter.ambiguousOpen false
open Ne (Rl Opt RulesAt areB answerO learnO)
open Fs (av hasB)
def packO (c:Cf) (a:Au) (inn:Pk) (tick:Int):(Au×List Pk×List Int)×Bool:=
 if inB inn.code 1 7=false then((a,[],[]),false)
 else if Cp.encErr inn.code inn.id inn.data.length≠0∨fineB c a tick=false then((a,[],[]),true)
 else match whichO c a inn with
  |none=>((a,[],[]),true)
  |some (e,ans,next)=>if Fs.stepErr a.st e≠0 then((a,[],[]),true) else(doO c {a with ask:=next} e inn ans tick,true)
def PackP (r:(Au×List Pk×List Int)×Bool) (w:World) (x:Ending) (w':World):Prop:=
 ∃va vo vd,x=.returned (.tuple #[auV r.1.1 va,vo,vd,.bool r.2])∧Below w.heap.size w w'∧OptsO w' w.heap.size va r.1.1.ask∧PksO w' w.heap.size vo r.1.2.1∧ActsO w' w.heap.size vd r.1.2.2
theorem enc_ok {L:List Opt} (h:(Op.encR L).2=0):L.length≤64∧ ∀o∈L,o.2.length≤253:=by
 unfold Op.encR at h
 split at h
 ·cases h
 ·split at h
  ·rename_i h3 h4
   refine⟨by omega,fun o ho=>?_⟩
   have:=List.all_eq_true.1 h4 o ho
   simp only[Op.okO,Bool.and_eq_true,decide_eq_true_eq] at this
   exact this.2
  ·cases h
theorem whichO_facts {c:Cf} {a:Au} {inn:Pk} {e:Int} {ans:Pk} {next:List Opt} (h:whichO c a inn=some (e,ans,next)):
  e≠0∧ans.data.length≤1488∧(e≠10→next=a.ask)∧(e=10→next.length≤64∧ ∀o∈next,o.2.length≤253):=by
 unfold whichO at h
 split at h
 ·unfold askedO at h
  split at h
  ·cases h
  ·split at h
   ·cases h
   ·cases h
    refine⟨by split<;>decide,encR_len _,fun _=>rfl,fun h=>?_⟩
    split at h<;>cases h
 ·split at h
  ·split at h
   ·cases h;exact⟨by decide,by simp,fun _=>rfl,fun h=>by cases h⟩
   ·cases h
  ·split at h
   ·unfold learnedO at h
    split at h
    ·cases h
    ·split at h
     ·rename_i h5
      cases h
      exact⟨by decide,by simp,fun h=>absurd rfl h,fun _=>enc_ok h5.2⟩
     ·cases h
   ·split at h
    ·cases h;exact⟨by decide,by simp,fun _=>rfl,fun h=>by cases h⟩
    ·split at h
     ·cases h;exact⟨by decide,by simp,fun _=>rfl,fun h=>by cases h⟩
     ·split at h
      ·cases h
      ·split at h
       ·cases h;exact⟨by decide,by simp,fun _=>rfl,fun h=>by cases h⟩
       ·cases h;exact⟨by decide,by simp,fun _=>rfl,fun h=>by cases h⟩
set_option maxRecDepth 100000 in
theorem pack_no (Ar Aa Ai:Option Addr) (nr cr na ca ni ci:Nat) (R:List Rl) (mc mt mf wt st id req cnt tim nak ic ii tick:Int) (E:List Ent) (li:List UInt8) (w:World) (B:Nat) (hB:B≤w.heap.size) (hR:RulesAt w B Ar R) (hnr:nr=R.length) (hlr:nr≤1000000) (hE:OptsAt w B Aa E) (hna:na=E.length) (hla:na≤1000000) (hda: ∀e∈E,e.d.length≤1000000) (hI:At w B Ai (li.map bv)) (hni:ni=li.length) (hci:ni≤ci) (hli:ni≤400000000) (hno:inB ic 1 7=false∨(Cp.encErr ic ii li.length≠0∨fineB ⟨R,mc,mt,mf,wt⟩ ⟨st,id,req,E.map Ent.o,cnt,tim,nak⟩ tick=false)):Calls Tryz.prog 19 #[.agg #[.slice Ar nr cr,.int .i64 mc,.int .i64 mt,.int .i64 mf,.int .i64 wt],.agg #[.int .i64 st,.int .i64 id,.int .i64 req,.slice Aa na ca,.int .i64 cnt,.int .i64 tim,.int .i64 nak],.agg #[.int .i64 ic,.int .i64 ii,.slice Ai ni ci],.int .i64 tick] w (PackP (packO ⟨R,mc,mt,mf,wt⟩ ⟨st,id,req,E.map Ent.o,cnt,tim,nak⟩ ⟨ic,ii,li⟩ tick) w):=by
 obtain⟨ib,hib⟩: ∃ib,inB ic 1 7=ib:=⟨_,rfl⟩
 rw[hib] at hno
 have HIN:=hid hib
 have HB:=hid hB
 have HR:=hid hR
 have HNR:=hid hnr
 have HE:=hid hE
 have HNA:=hid hna
 have HDA:=hid hda
 have HI:=hid hI
 have HNI:=hid hni
 obtain⟨L,hL⟩: ∃L,E.map Ent.o=L:=⟨_,rfl⟩
 have HL:=hid hL
 rw[hL]
 clear hB hR hnr hE hna hda hL hI hni
 rw[HL.out] at hno
 cases ib
 ·have HO:=hid (show packO ⟨R,mc,mt,mf,wt⟩ ⟨st,id,req,L,cnt,tim,nak⟩ ⟨ic,ii,li⟩ tick=((⟨st,id,req,L,cnt,tim,nak⟩,[],[]),false) from if_pos hib)
  rw[HO.out]
  clear hib hno HO
  go_enter Tryz.func19,Tryz.ntmps19
  go_upto_region 1 with(fail)
  refine boxes4 ?_
  rintro w2 ⟨h6,h7,h8,h12,hbw⟩
  have HB2:=hid hbw
  have H62:=hid h6
  have H72:=hid h7
  have H82:=hid h8
  have H122:=hid h12
  clear h6 h7 h8 h12 hbw
  have hs2:=HB2.out.size
  obtain⟨⟨l6,l7,l8,l12⟩,⟨p0,p1,p2,p3,p4⟩,⟨q0,q1,q2,q3,q4,q5,q6⟩,⟨r0,r1,r2⟩,⟨z0,z1,z2,z3,z4,z5,z6⟩,⟨f0,f1,f2,f3,f4,f5,f6⟩,k3⟩:=cellsK H62.out H72.out H82.out H122.out
  go_wp2_with (go_at_call 59;refine(within_f _ _ _ _ HIN.out).mono ?_;rintro e w1 ⟨rfl,rfl⟩)
  refine(as_any st id req cnt tim nak Aa na ca E _ B (by have:=HB.out;omega) (HE.out.keep (HB2.out.mono HB.out)) HNA.out hla (fun e he=>by have:=HDA.out e he;omega)).mono ?_
  rintro x w9 ⟨v,rfl,E9,A9,n9,c9,rfl,he9,hn9,hc9,hb9,ho9⟩
  have HE9:=hid (show E9.map Ent.o=L from he9.trans HL.out)
  have HO9:=hid ho9
  have HQ9:=hid (show Below w2.heap.size w2 w9 from hb9)
  have HB9:=hid (HB2.out.trans (HQ9.out.mono hs2))
  have H69:=hid ((HQ9.out.block _ l6).trans H62.out)
  have H79:=hid ((HQ9.out.block _ l7).trans H72.out)
  have H89:=hid ((HQ9.out.block _ l8).trans H82.out)
  have H129:=hid ((HQ9.out.block _ l12).trans H122.out)
  clear p0 p1 p2 p3 p4 q0 q1 q2 q3 q4 q5 q6 r0 r1 r2 z0 z1 z2 z3 z4 z5 z6 f0 f1 f2 f3 f4 f5 f6 k3 l6 l7 l8 l12
  have hs9:=HB9.out.size
  obtain⟨⟨l6,l7,l8,l12⟩,⟨p0,p1,p2,p3,p4⟩,⟨q0,q1,q2,q3,q4,q5,q6⟩,⟨r0,r1,r2⟩,⟨z0,z1,z2,z3,z4,z5,z6⟩,⟨f0,f1,f2,f3,f4,f5,f6⟩,k3⟩:=cellsK H69.out H79.out H89.out H129.out
  clear he9 hn9 hc9 hb9 ho9
  dsimp only
  go_wp2_with fail
  obtain⟨Wf,hWf⟩: ∃Wf:World,Wf=(((((((w9.setCell ⟨w.heap.size+1+1+1,0,none⟩ (.int .i64 st)).setCell ⟨w.heap.size+1+1+1,1,none⟩ (.int .i64 id)).setCell ⟨w.heap.size+1+1+1,2,none⟩ (.int .i64 req)).setCell ⟨w.heap.size+1+1+1,3,none⟩ (.slice A9 n9 c9)).setCell ⟨w.heap.size+1+1+1,4,none⟩ (.int .i64 cnt)).setCell ⟨w.heap.size+1+1+1,5,none⟩ (.int .i64 tim)).setCell ⟨w.heap.size+1+1+1,6,none⟩ (.int .i64 nak)):=⟨_,rfl⟩
  rw[←hWf]
  have hrow:Wf.heap[w.heap.size+1+1+1]? =some (.cells #[.int .i64 st,.int .i64 id,.int .i64 req,.slice A9 n9 c9,.int .i64 cnt,.int .i64 tim,.int .i64 nak] 29 (0,0)):=by rw[hWf];exact row7 H129.out rfl _ _ _ _ _ _ _
  have hgr:w9.grownBy Wf (some (w.heap.size+1+1+1)):=by rw[hWf];exact grn
  clear hWf
  clear p0 p1 p2 p3 p4 q0 q1 q2 q3 q4 q5 q6 r0 r1 r2 z0 z1 z2 z3 z4 z5 z6 f0 f1 f2 f3 f4 f5 f6 k3 l6 l7 l8 l12
  obtain⟨u0,u1,u2,u3,u4,u5,u6⟩:=cells7 hrow
  refine bodyPost_ret (v:=.tuple #[.agg #[.int .i64 st,.int .i64 id,.int .i64 req,.slice A9 n9 c9,.int .i64 cnt,.int .i64 tim,.int .i64 nak],.slice none 0 0,.slice none 0 0,.bool false]) (by simp[results,Tryz.results19,go_sem,u0,u1,u2,u3,u4,u5,u6]) rfl ?_
  exact⟨.slice A9 n9 c9,.slice none 0 0,.slice none 0 0,rfl,Below.grown HB9.out hgr hs9 (fun k hk=>by cases hk;omega),OptsO.base (OwnOpts.otherx (⟨E9,HO9.out,HE9.out⟩:OptsO _ _ _ L) hgr H129.out (by decide) (by decide)) hs2,⟨[],OwnPks.nil _ _,rfl⟩,ActsO.nil _ _⟩
 ·have h2:Cp.encErr ic ii li.length≠0∨fineB ⟨R,mc,mt,mf,wt⟩ ⟨st,id,req,L,cnt,tim,nak⟩ tick=false:=by rcases hno with h|h;cases h;exact h
  have HO:=hid (show packO ⟨R,mc,mt,mf,wt⟩ ⟨st,id,req,L,cnt,tim,nak⟩ ⟨ic,ii,li⟩ tick=((⟨st,id,req,L,cnt,tim,nak⟩,[],[]),true) by unfold packO;dsimp only;rw[hib,if_neg (by decide),if_pos h2])
  rw[HO.out]
  obtain⟨er,her⟩: ∃er,Cp.encErr ic ii li.length=er:=⟨_,rfl⟩
  have HEN:=hid her
  rw[her] at h2
  clear hib hno HO her
  by_cases h0:er=0
  ·have HF:=hid (show fineB ⟨R,mc,mt,mf,wt⟩ ⟨st,id,req,L,cnt,tim,nak⟩ tick=false from h2.resolve_left (fun h=>h h0))
   have h0':(er !=0)=false:=by simp[h0]
   clear h0 h2
   go_enter Tryz.func19,Tryz.ntmps19
   go_upto_region 1 with(fail)
   refine boxes4 ?_
   rintro w2 ⟨h6,h7,h8,h12,hbw⟩
   have HB2:=hid hbw
   have H62:=hid h6
   have H72:=hid h7
   have H82:=hid h8
   have H122:=hid h12
   clear h6 h7 h8 h12 hbw
   have hs2:=HB2.out.size
   obtain⟨⟨l6,l7,l8,l12⟩,⟨p0,p1,p2,p3,p4⟩,⟨q0,q1,q2,q3,q4,q5,q6⟩,⟨r0,r1,r2⟩,⟨z0,z1,z2,z3,z4,z5,z6⟩,⟨f0,f1,f2,f3,f4,f5,f6⟩,k3⟩:=cellsK H62.out H72.out H82.out H122.out
   go_wp2_with (go_at_call 59;refine(within_t _ _ _ _ HIN.out).mono ?_;rintro e w1 ⟨rfl,rfl⟩)
   refine(Cp.enc_any ic ii Ai ni ci li _ B (by have:=HB.out;omega) (HI.out.keep (HB2.out.mono HB.out)) HNI.out (by omega)).mono ?_
   unfold Cp.EncP
   rw[HEN.out]
   rintro x w3 ⟨v3,rfl,hb3,-⟩
   have HQ3:=hid (show Below w2.heap.size w2 w3 from hb3)
   have HB3:=hid (HB2.out.trans (HQ3.out.mono hs2))
   have H63:=hid ((HQ3.out.block _ l6).trans H62.out)
   have H73:=hid ((HQ3.out.block _ l7).trans H72.out)
   have H83:=hid ((HQ3.out.block _ l8).trans H82.out)
   have H123:=hid ((HQ3.out.block _ l12).trans H122.out)
   clear p0 p1 p2 p3 p4 q0 q1 q2 q3 q4 q5 q6 r0 r1 r2 z0 z1 z2 z3 z4 z5 z6 f0 f1 f2 f3 f4 f5 f6 k3 l6 l7 l8 l12
   have hs3:=HB3.out.size
   obtain⟨⟨l6,l7,l8,l12⟩,⟨p0,p1,p2,p3,p4⟩,⟨q0,q1,q2,q3,q4,q5,q6⟩,⟨r0,r1,r2⟩,⟨z0,z1,z2,z3,z4,z5,z6⟩,⟨f0,f1,f2,f3,f4,f5,f6⟩,k3⟩:=cellsK H63.out H73.out H83.out H123.out
   clear hb3
   go_wp2_with fail
   refine(may_any Ar nr cr R mc mt mf wt st id req cnt tim nak Aa na ca E L HL.out tick _ B (by have:=HB.out;omega) (HR.out.keep (HB3.out.mono HB.out)) HNR.out hlr (HE.out.keep (HB3.out.mono HB.out)) HNA.out).mono ?_
   rw[HF.out]
   rintro x w4 ⟨rfl,hb4⟩
   have HQ4:=hid (show Below w3.heap.size w3 w4 from hb4)
   have HB4:=hid (HB3.out.trans (HQ4.out.mono hs3))
   have H64:=hid ((HQ4.out.block _ l6).trans H63.out)
   have H74:=hid ((HQ4.out.block _ l7).trans H73.out)
   have H84:=hid ((HQ4.out.block _ l8).trans H83.out)
   have H124:=hid ((HQ4.out.block _ l12).trans H123.out)
   clear p0 p1 p2 p3 p4 q0 q1 q2 q3 q4 q5 q6 r0 r1 r2 z0 z1 z2 z3 z4 z5 z6 f0 f1 f2 f3 f4 f5 f6 k3 l6 l7 l8 l12
   have hs4:=HB4.out.size
   obtain⟨⟨l6,l7,l8,l12⟩,⟨p0,p1,p2,p3,p4⟩,⟨q0,q1,q2,q3,q4,q5,q6⟩,⟨r0,r1,r2⟩,⟨z0,z1,z2,z3,z4,z5,z6⟩,⟨f0,f1,f2,f3,f4,f5,f6⟩,k3⟩:=cellsK H64.out H74.out H84.out H124.out
   clear hb4
   go_wp2_with fail
   refine(as_any st id req cnt tim nak Aa na ca E _ B (by have:=HB.out;omega) (HE.out.keep (HB4.out.mono HB.out)) HNA.out hla (fun e he=>by have:=HDA.out e he;omega)).mono ?_
   rintro x w9 ⟨v,rfl,E9,A9,n9,c9,rfl,he9,hn9,hc9,hb9,ho9⟩
   have HE9:=hid (show E9.map Ent.o=L from he9.trans HL.out)
   have HO9:=hid ho9
   have HQ9:=hid (show Below w4.heap.size w4 w9 from hb9)
   have HB9:=hid (HB4.out.trans (HQ9.out.mono hs4))
   have H69:=hid ((HQ9.out.block _ l6).trans H64.out)
   have H79:=hid ((HQ9.out.block _ l7).trans H74.out)
   have H89:=hid ((HQ9.out.block _ l8).trans H84.out)
   have H129:=hid ((HQ9.out.block _ l12).trans H124.out)
   clear p0 p1 p2 p3 p4 q0 q1 q2 q3 q4 q5 q6 r0 r1 r2 z0 z1 z2 z3 z4 z5 z6 f0 f1 f2 f3 f4 f5 f6 k3 l6 l7 l8 l12
   have hs9:=HB9.out.size
   obtain⟨⟨l6,l7,l8,l12⟩,⟨p0,p1,p2,p3,p4⟩,⟨q0,q1,q2,q3,q4,q5,q6⟩,⟨r0,r1,r2⟩,⟨z0,z1,z2,z3,z4,z5,z6⟩,⟨f0,f1,f2,f3,f4,f5,f6⟩,k3⟩:=cellsK H69.out H79.out H89.out H129.out
   clear he9 hn9 hc9 hb9 ho9
   dsimp only
   go_wp2_with fail
   obtain⟨Wf,hWf⟩: ∃Wf:World,Wf=(((((((w9.setCell ⟨w.heap.size+1+1+1,0,none⟩ (.int .i64 st)).setCell ⟨w.heap.size+1+1+1,1,none⟩ (.int .i64 id)).setCell ⟨w.heap.size+1+1+1,2,none⟩ (.int .i64 req)).setCell ⟨w.heap.size+1+1+1,3,none⟩ (.slice A9 n9 c9)).setCell ⟨w.heap.size+1+1+1,4,none⟩ (.int .i64 cnt)).setCell ⟨w.heap.size+1+1+1,5,none⟩ (.int .i64 tim)).setCell ⟨w.heap.size+1+1+1,6,none⟩ (.int .i64 nak)):=⟨_,rfl⟩
   rw[←hWf]
   have hrow:Wf.heap[w.heap.size+1+1+1]? =some (.cells #[.int .i64 st,.int .i64 id,.int .i64 req,.slice A9 n9 c9,.int .i64 cnt,.int .i64 tim,.int .i64 nak] 29 (0,0)):=by rw[hWf];exact row7 H129.out rfl _ _ _ _ _ _ _
   have hgr:w9.grownBy Wf (some (w.heap.size+1+1+1)):=by rw[hWf];exact grn
   clear hWf
   clear p0 p1 p2 p3 p4 q0 q1 q2 q3 q4 q5 q6 r0 r1 r2 z0 z1 z2 z3 z4 z5 z6 f0 f1 f2 f3 f4 f5 f6 k3 l6 l7 l8 l12
   obtain⟨u0,u1,u2,u3,u4,u5,u6⟩:=cells7 hrow
   refine bodyPost_ret (v:=.tuple #[.agg #[.int .i64 st,.int .i64 id,.int .i64 req,.slice A9 n9 c9,.int .i64 cnt,.int .i64 tim,.int .i64 nak],.slice none 0 0,.slice none 0 0,.bool true]) (by simp[results,Tryz.results19,go_sem,u0,u1,u2,u3,u4,u5,u6]) rfl ?_
   exact⟨.slice A9 n9 c9,.slice none 0 0,.slice none 0 0,rfl,Below.grown HB9.out hgr hs9 (fun k hk=>by cases hk;omega),OptsO.base (OwnOpts.otherx (⟨E9,HO9.out,HE9.out⟩:OptsO _ _ _ L) hgr H129.out (by decide) (by decide)) hs4,⟨[],OwnPks.nil _ _,rfl⟩,ActsO.nil _ _⟩
  ·have h0':(er !=0)=true:=by simpa using h0
   clear h0 h2
   go_enter Tryz.func19,Tryz.ntmps19
   go_upto_region 1 with(fail)
   refine boxes4 ?_
   rintro w2 ⟨h6,h7,h8,h12,hbw⟩
   have HB2:=hid hbw
   have H62:=hid h6
   have H72:=hid h7
   have H82:=hid h8
   have H122:=hid h12
   clear h6 h7 h8 h12 hbw
   have hs2:=HB2.out.size
   obtain⟨⟨l6,l7,l8,l12⟩,⟨p0,p1,p2,p3,p4⟩,⟨q0,q1,q2,q3,q4,q5,q6⟩,⟨r0,r1,r2⟩,⟨z0,z1,z2,z3,z4,z5,z6⟩,⟨f0,f1,f2,f3,f4,f5,f6⟩,k3⟩:=cellsK H62.out H72.out H82.out H122.out
   go_wp2_with (go_at_call 59;refine(within_t _ _ _ _ HIN.out).mono ?_;rintro e w1 ⟨rfl,rfl⟩)
   refine(Cp.enc_any ic ii Ai ni ci li _ B (by have:=HB.out;omega) (HI.out.keep (HB2.out.mono HB.out)) HNI.out (by omega)).mono ?_
   unfold Cp.EncP
   rw[HEN.out]
   rintro x w3 ⟨v3,rfl,hb3,-⟩
   have HQ3:=hid (show Below w2.heap.size w2 w3 from hb3)
   have HB3:=hid (HB2.out.trans (HQ3.out.mono hs2))
   have H63:=hid ((HQ3.out.block _ l6).trans H62.out)
   have H73:=hid ((HQ3.out.block _ l7).trans H72.out)
   have H83:=hid ((HQ3.out.block _ l8).trans H82.out)
   have H123:=hid ((HQ3.out.block _ l12).trans H122.out)
   clear p0 p1 p2 p3 p4 q0 q1 q2 q3 q4 q5 q6 r0 r1 r2 z0 z1 z2 z3 z4 z5 z6 f0 f1 f2 f3 f4 f5 f6 k3 l6 l7 l8 l12
   have hs3:=HB3.out.size
   obtain⟨⟨l6,l7,l8,l12⟩,⟨p0,p1,p2,p3,p4⟩,⟨q0,q1,q2,q3,q4,q5,q6⟩,⟨r0,r1,r2⟩,⟨z0,z1,z2,z3,z4,z5,z6⟩,⟨f0,f1,f2,f3,f4,f5,f6⟩,k3⟩:=cellsK H63.out H73.out H83.out H123.out
   clear hb3
   go_wp2_with fail
   refine(as_any st id req cnt tim nak Aa na ca E _ B (by have:=HB.out;omega) (HE.out.keep (HB3.out.mono HB.out)) HNA.out hla (fun e he=>by have:=HDA.out e he;omega)).mono ?_
   rintro x w9 ⟨v,rfl,E9,A9,n9,c9,rfl,he9,hn9,hc9,hb9,ho9⟩
   have HE9:=hid (show E9.map Ent.o=L from he9.trans HL.out)
   have HO9:=hid ho9
   have HQ9:=hid (show Below w3.heap.size w3 w9 from hb9)
   have HB9:=hid (HB3.out.trans (HQ9.out.mono hs3))
   have H69:=hid ((HQ9.out.block _ l6).trans H63.out)
   have H79:=hid ((HQ9.out.block _ l7).trans H73.out)
   have H89:=hid ((HQ9.out.block _ l8).trans H83.out)
   have H129:=hid ((HQ9.out.block _ l12).trans H123.out)
   clear p0 p1 p2 p3 p4 q0 q1 q2 q3 q4 q5 q6 r0 r1 r2 z0 z1 z2 z3 z4 z5 z6 f0 f1 f2 f3 f4 f5 f6 k3 l6 l7 l8 l12
   have hs9:=HB9.out.size
   obtain⟨⟨l6,l7,l8,l12⟩,⟨p0,p1,p2,p3,p4⟩,⟨q0,q1,q2,q3,q4,q5,q6⟩,⟨r0,r1,r2⟩,⟨z0,z1,z2,z3,z4,z5,z6⟩,⟨f0,f1,f2,f3,f4,f5,f6⟩,k3⟩:=cellsK H69.out H79.out H89.out H129.out
   clear he9 hn9 hc9 hb9 ho9
   dsimp only
   go_wp2_with fail
   obtain⟨Wf,hWf⟩: ∃Wf:World,Wf=(((((((w9.setCell ⟨w.heap.size+1+1+1,0,none⟩ (.int .i64 st)).setCell ⟨w.heap.size+1+1+1,1,none⟩ (.int .i64 id)).setCell ⟨w.heap.size+1+1+1,2,none⟩ (.int .i64 req)).setCell ⟨w.heap.size+1+1+1,3,none⟩ (.slice A9 n9 c9)).setCell ⟨w.heap.size+1+1+1,4,none⟩ (.int .i64 cnt)).setCell ⟨w.heap.size+1+1+1,5,none⟩ (.int .i64 tim)).setCell ⟨w.heap.size+1+1+1,6,none⟩ (.int .i64 nak)):=⟨_,rfl⟩
   rw[←hWf]
   have hrow:Wf.heap[w.heap.size+1+1+1]? =some (.cells #[.int .i64 st,.int .i64 id,.int .i64 req,.slice A9 n9 c9,.int .i64 cnt,.int .i64 tim,.int .i64 nak] 29 (0,0)):=by rw[hWf];exact row7 H129.out rfl _ _ _ _ _ _ _
   have hgr:w9.grownBy Wf (some (w.heap.size+1+1+1)):=by rw[hWf];exact grn
   clear hWf
   clear p0 p1 p2 p3 p4 q0 q1 q2 q3 q4 q5 q6 r0 r1 r2 z0 z1 z2 z3 z4 z5 z6 f0 f1 f2 f3 f4 f5 f6 k3 l6 l7 l8 l12
   obtain⟨u0,u1,u2,u3,u4,u5,u6⟩:=cells7 hrow
   refine bodyPost_ret (v:=.tuple #[.agg #[.int .i64 st,.int .i64 id,.int .i64 req,.slice A9 n9 c9,.int .i64 cnt,.int .i64 tim,.int .i64 nak],.slice none 0 0,.slice none 0 0,.bool true]) (by simp[results,Tryz.results19,go_sem,u0,u1,u2,u3,u4,u5,u6]) rfl ?_
   exact⟨.slice A9 n9 c9,.slice none 0 0,.slice none 0 0,rfl,Below.grown HB9.out hgr hs9 (fun k hk=>by cases hk;omega),OptsO.base (OwnOpts.otherx (⟨E9,HO9.out,HE9.out⟩:OptsO _ _ _ L) hgr H129.out (by decide) (by decide)) hs3,⟨[],OwnPks.nil _ _,rfl⟩,ActsO.nil _ _⟩
end Go.Proofs.YtfkgmbknfnhjoaaGreat
