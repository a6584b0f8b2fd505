/- PH -/
import Derived.Test.YtfkgmbknfnhjoaaGreatSPG
set_option linter.all false
set_option linter.ambiguousOpen false
set_option maxHeartbeats 8000000
namespace Go.Proofs.YtfkgmbknfnhjoaaGreat
open Lib (hid)
open Go.RowKit
open Ne (Rl bF aD bM)
open Fs (av hasB)
set_option maxRecDepth 100000 in
theorem Od (Ar Aa Ai An Ad:Option Addr) (nr cr na ca ni ci nn cn nd cd:Nat) (mc mt mf wt st id req cnt ay au ic ii ac ai tick:Int) (E:List aH) (R:List Rl) (li ln:List UInt8) (acts:List Int) (vo:Value) (P:List Pe) (w:World) (base:Nat) (hb:base≤w.heap.size) (hP:bS w base vo P) (hlo:P.length≤999) (hE:aJ w w.heap.size Aa E) (hna:na=E.length) (hI:At w base Ai (li.map bv)) (hni:ni=li.length) (hci:ni≤ci) (iF:ni≤400000000) (hN:At w base An (ln.map bv)) (hnn:nn=ln.length) (hcn:nn≤cn) (hD:At w w.heap.size Ad (acts.map av)) (hnd:nd=acts.length) (kN:nd≤1000) (hk:gN ⟨R,mc,mt,mf,wt⟩ ⟨st,id,req,E.map aH.o,cnt,ay,au⟩ tick):Calls Tryz.prog 56 #[.agg #[.slice Ar nr cr,.int .i64 mc,.int .i64 mt,.int .i64 mf,.int .i64 wt,.int .i64 st,.int .i64 id,.int .i64 req,.slice Aa na ca,.int .i64 cnt,.int .i64 ay,.int .i64 au,vo],.int .i64 10,.slice Ad nd cd,.agg #[.int .i64 ic,.int .i64 ii,.slice Ai ni ci],.agg #[.int .i64 ac,.int .i64 ai,.slice An nn cn],.int .i64 tick] w (iR (.slice Ar nr cr) (.slice Aa na ca) ⟨R,mc,mt,mf,wt⟩ (fK ⟨R,mc,mt,mf,wt⟩ ⟨ic,ii,li⟩ ⟨ac,ai,ln⟩ tick acts ⟨st,id,req,E.map aH.o,cnt,ay,au⟩ 10) vo base P w):=by
 subst hnn
 subst hni
 obtain⟨Ao,fq,rfl,-,-⟩:=ownsRow_form hP.1
 have HP:=hid hP
 have HE:=hid hE
 have dz:=hid hna
 have HI:=hid hI
 have HN:=hid hN
 have HD:=hid (And.intro hD hnd)
 have HK:=hid hk
 obtain⟨pn,hpn⟩: ∃pn,P.length=pn:=⟨_,rfl⟩
 have qo:=hid hpn
 rw[hpn] at HP hlo
 rw[hpn]
 clear hP hE hna hI hN hD hnd hk hpn
 have q0:=HK.out.t0
 have q1:=HK.out.t1
 have q2:=HK.out.w0
 have q3:=HK.out.w1
 have q4:=HK.out.c0
 have q5:=HK.out.c1
 have q6:=HK.out.i0
 have q7:=HK.out.i1
 dsimp only at q0 q1 q2 q3 q4 q5 q6 q7
 show Calls _ _ _ _ (iR _ _ _ (⟨st,jY id,req,E.map aH.o,dec cnt,tick+wt,au⟩,[⟨5,jY id,[]⟩]) _ _ _ _)
 go_enter Tryz.func56,Tryz.ntmps56
 go_upto_region 1 with(fail)
 refine bY (fun W=>RB W w.heap.size (.slice Ar nr cr) mc mt mf wt st id req (.slice Aa na ca) cnt ay au (.slice Ao pn fq)∧W.heap[w.heap.size+1]? =some (.cells #[.int .i64 ic,.int .i64 ii,.slice Ai li.length ci] 32 (0,0))∧W.heap[w.heap.size+1+1]? =some (.cells #[.int .i64 ac,.int .i64 ai,.slice An ln.length cn] 32 (0,0))∧RB W (w.heap.size+1+1+1) (.slice none 0 0) 0 0 0 0 0 0 0 (.slice none 0 0) 0 0 0 (.slice none 0 0)∧Below w.heap.size w W) ⟨?_,?_,?_,?_,by exact aA⟩ ?_
 ·show(World.alloc _ _).heap[w.heap.size]? =_
  exact hpa
 ·show(World.alloc _ _).heap[w.heap.size+1]? =_
  exact hpa
 ·show(World.alloc _ _).heap[w.heap.size+1+1]? =_
  exact hpa
 ·show(World.alloc _ _).heap[w.heap.size+1+1+1]? =_
  exact hpa
 rintro W1 ⟨hx3,h9,h10,hy3,hb3⟩
 have gX:=hid hx3
 have H9:=hid h9
 have za:=hid h10
 have gY:=hid hy3
 have HB3:=hid hb3
 have fD:=hid (HP.out.below hb3 hb)
 have cK:=hid (cO (r:=(Value.slice Ao pn fq).ownBlock) hb3)
 have oK:=hb3.size
 obtain⟨⟨b0,b1,b2,b3,b4⟩,⟨b5,b6,b7,b8,b9,b10,b11⟩,b12⟩:=hx3.cells
 obtain⟨i0,i1,i2⟩:=cells3 h9
 obtain⟨n0,n1,n2⟩:=cells3 h10
 have k6:=hx3.free 6
 have k7:=hx3.free 7
 have k9:=hx3.free 9
 have k10:=hx3.free 10
 have k11:=hx3.free 11
 have k12:=hx3.free 12
 have l9:=aj h9
 have l10:=aj h10
 have CX:=hx3.lt
 have D5:=hy3.lt
 clear hx3 h9 h10 hy3 hb3
 go_wp2_with fail
 refine(wT Ar Aa none nr cr na ca 0 0 mc mt mf wt st id req cnt ay au 5 tick [] _ P _ base (by omega) fD.out (by have:=qo.out;omega) rfl (.inl ⟨At.nil _ _ _,aaE _⟩) q0 q1 q2 q3 q4 q5 q6 q7).mono ?_
 rintro y w3 ⟨v',P',rfl,hg3,hp3,hpe⟩
 obtain⟨A4,c4,rfl,-,-⟩:=ownsRow_form hp3.1
 obtain⟨p4,yH⟩: ∃p4,P'.length=p4:=⟨_,rfl⟩
 have zQ:=hid yH
 have hx3:=RB.apart (gX.out) hg3 (bW fD.out.1 gX.out (by decide))
 have hy3:=RB.apart (gY.out) hg3 (bW fD.out.1 gY.out (by decide))
 have HPQ:=hid hp3
 have KI:=hid hpe
 rw[yH] at HPQ
 rw[yH]
 clear yH gX gY b0 b1 b2 b3 b4 b5 b6 b7 b8 b9 b10 b11 b12 k6 k7 k9 k10 k11 k12
 have gX:=hid hx3
 have gY:=hid hy3
 obtain⟨⟨b0,b1,b2,b3,b4⟩,⟨b5,b6,b7,b8,b9,b10,b11⟩,b12⟩:=hx3.cells
 have k0:=hx3.free 0
 have k1:=hx3.free 1
 have k2:=hx3.free 2
 have k3:=hx3.free 3
 have k4:=hx3.free 4
 have k5:=hx3.free 5
 have k6:=hx3.free 6
 have k7:=hx3.free 7
 have k8:=hx3.free 8
 have k9:=hx3.free 9
 have k10:=hx3.free 10
 have k11:=hx3.free 11
 have k12:=hx3.free 12
 have lz3:=hx3.lt
 have IK:=hy3.lt
 have VO:=hid (cK.out.trans hg3)
 clear hg3 hp3 hpe hx3 hy3 fD cK
 go_upto_region 31 with(fail)
 refine bY (fun W=>RB W w.heap.size (.slice Ar nr cr) mc mt mf wt st (jY id) req (.slice Aa na ca) (dec cnt) (tick+wt) au (.slice A4 p4 c4)∧RB W (w.heap.size+1+1+1) (.slice none 0 0) 0 0 0 0 0 0 0 (.slice none 0 0) 0 0 0 (.slice none 0 0)∧bS W base (.slice A4 p4 c4) P'∧w.grownBy W (Value.slice Ao pn fq).ownBlock) ⟨jy gX.out rfl _ _ _ _ _ _ _ _ _ _ _ _ _,gY.out.apart (row:=some w.heap.size) grn (by intro e;have:=Option.some.inj e;omega),HPQ.out.other (X:=w.heap.size) grn gX.out hb (by decide) (by decide) (aaF hb VO.out.size),by have h3:=VO.out;exact grn⟩ ?_
 clear gX gY b0 b1 b2 b3 b4 b5 b6 b7 b8 b9 b10 b11 b12 k0 k1 k2 k3 k4 k5 k6 k7 k8 k9 k10 k11 k12 lz3 IK
 rintro w4 ⟨hx3,hy3,hp3,hg3⟩
 have gX:=hid hx3
 have gY:=hid hy3
 have fD:=hid hp3
 have cK:=hid hg3
 obtain⟨⟨b0,b1,b2,b3,b4⟩,⟨b5,b6,b7,b8,b9,b10,b11⟩,b12⟩:=hx3.cells
 obtain⟨⟨y0,y1,y2,y3,y4⟩,⟨y5,y6,y7,y8,y9,tQ,tT⟩,tV⟩:=hy3.cells
 have g0:=hy3.free 0
 have g1:=hy3.free 1
 have g2:=hy3.free 2
 have g3:=hy3.free 3
 have g4:=hy3.free 4
 have g5:=hy3.free 5
 have g6:=hy3.free 6
 have g7:=hy3.free 7
 have g8:=hy3.free 8
 have g9:=hy3.free 9
 have g10:=hy3.free 10
 have g11:=hy3.free 11
 have g12:=hy3.free 12
 have lz3:=hx3.lt
 have IK:=hy3.lt
 clear hx3 hy3 hp3 hg3
 go_wp2_with fail
 obtain⟨WT,iE⟩: ∃WT:World,WT=w4:=⟨_,rfl⟩
 obtain⟨Wf,hWf⟩: ∃Wf:World,Wf=(((((((((((((WT.setCell ⟨(w.heap.size+1+1+1),0,none⟩ (.slice Ar nr cr)).setCell ⟨(w.heap.size+1+1+1),1,none⟩ (.int .i64 mc)).setCell ⟨(w.heap.size+1+1+1),2,none⟩ (.int .i64 mt)).setCell ⟨(w.heap.size+1+1+1),3,none⟩ (.int .i64 mf)).setCell ⟨(w.heap.size+1+1+1),4,none⟩ (.int .i64 wt)).setCell ⟨(w.heap.size+1+1+1),5,none⟩ (.int .i64 st)).setCell ⟨(w.heap.size+1+1+1),6,none⟩ (.int .i64 (jY id))).setCell ⟨(w.heap.size+1+1+1),7,none⟩ (.int .i64 req)).setCell ⟨(w.heap.size+1+1+1),8,none⟩ (.slice Aa na ca)).setCell ⟨(w.heap.size+1+1+1),9,none⟩ (.int .i64 (dec cnt))).setCell ⟨(w.heap.size+1+1+1),10,none⟩ (.int .i64 (tick+wt))).setCell ⟨(w.heap.size+1+1+1),11,none⟩ (.int .i64 au)).setCell ⟨(w.heap.size+1+1+1),12,none⟩ (.slice A4 p4 c4)):=⟨_,rfl⟩
 have bO:Wf=((((((((((((((w4).setCell ⟨(w.heap.size+1+1+1),0,none⟩ (.slice Ar nr cr)).setCell ⟨(w.heap.size+1+1+1),1,none⟩ (.int .i64 mc)).setCell ⟨(w.heap.size+1+1+1),2,none⟩ (.int .i64 mt)).setCell ⟨(w.heap.size+1+1+1),3,none⟩ (.int .i64 mf)).setCell ⟨(w.heap.size+1+1+1),4,none⟩ (.int .i64 wt)).setCell ⟨(w.heap.size+1+1+1),5,none⟩ (.int .i64 st)).setCell ⟨(w.heap.size+1+1+1),6,none⟩ (.int .i64 (jY id))).setCell ⟨(w.heap.size+1+1+1),7,none⟩ (.int .i64 req)).setCell ⟨(w.heap.size+1+1+1),8,none⟩ (.slice Aa na ca)).setCell ⟨(w.heap.size+1+1+1),9,none⟩ (.int .i64 (dec cnt))).setCell ⟨(w.heap.size+1+1+1),10,none⟩ (.int .i64 (tick+wt))).setCell ⟨(w.heap.size+1+1+1),11,none⟩ (.int .i64 au)).setCell ⟨(w.heap.size+1+1+1),12,none⟩ (.slice A4 p4 c4)):=by rw[hWf,iE]
 rw[←bO]
 have jN:w4.grownBy WT (some w.heap.size):=by rw[iE];exact grn
 have lS:=gY.out.apart jN (by intro e;have:=Option.some.inj e;omega)
 have hrow:RB Wf (w.heap.size+1+1+1) (.slice Ar nr cr) mc mt mf wt st ((jY id)) (req) (.slice Aa na ca) ((dec cnt)) ((tick+wt)) (au) ((.slice A4 p4 c4)):=by rw[hWf];exact jy lS rfl _ _ _ _ _ _ _ _ _ _ _ _ _
 have hgr:WT.grownBy Wf (some (w.heap.size+1+1+1)):=by rw[hWf];exact grn
 have hgf:w.grownBy Wf (Value.slice Ao pn fq).ownBlock:=by
  have h3:=cK.out
  rw[hWf,iE]
  exact grn
 have uT:=fD.out.other jN gX.out hb (by decide) (by decide) (aaF hb cK.out.size)
 have hpf:=uT.other hgr lS (by omega) (by decide) (by decide) (aaF hb (aaF cK.out.size jN.size))
 clear hWf bO iE b0 b1 b2 b3 b4 b5 b6 b7 b8 b9 b10 b11 b12 y0 y1 y2 y3 y4 y5 y6 y7 y8 y9 tQ tT tV g0 g1 g2 g3 g4 g5 g6 g7 g8 g9 g10 g11 g12
 obtain⟨⟨u0,u1,u2,u3,u4⟩,⟨u5,u6,u7,u8,u9,sK,sM⟩,sN⟩:=hrow.cells
 refine bodyPost_ret (v:=.agg #[.slice Ar nr cr,.int .i64 mc,.int .i64 mt,.int .i64 mf,.int .i64 wt,.int .i64 st,.int .i64 ((jY id)),.int .i64 (req),.slice Aa na ca,.int .i64 ((dec cnt)),.int .i64 ((tick+wt)),.int .i64 (au),(.slice A4 p4 c4)]) (by simp[results,Tryz.results56,go_sem,u0,u1,u2,u3,u4,u5,u6,u7,u8,u9,sK,sM,sN]) rfl ?_
 exact⟨_,P',rfl,hgf,hpf,KI.out⟩
set_option maxRecDepth 100000 in
theorem UL (Ar Aa Ai An Ad:Option Addr) (nr cr na ca ni ci nn cn nd cd:Nat) (mc mt mf wt st id req cnt ay au ic ii ac ai tick:Int) (E:List aH) (R:List Rl) (li ln:List UInt8) (acts:List Int) (vo:Value) (P:List Pe) (w:World) (base:Nat) (hb:base≤w.heap.size) (hP:bS w base vo P) (hlo:P.length≤999) (hE:aJ w w.heap.size Aa E) (hna:na=E.length) (hI:At w base Ai (li.map bv)) (hni:ni=li.length) (hci:ni≤ci) (iF:ni≤400000000) (hN:At w base An (ln.map bv)) (hnn:nn=ln.length) (hcn:nn≤cn) (hD:At w w.heap.size Ad (acts.map av)) (hnd:nd=acts.length) (kN:nd≤1000) (hk:gN ⟨R,mc,mt,mf,wt⟩ ⟨st,id,req,E.map aH.o,cnt,ay,au⟩ tick):Calls Tryz.prog 56 #[.agg #[.slice Ar nr cr,.int .i64 mc,.int .i64 mt,.int .i64 mf,.int .i64 wt,.int .i64 st,.int .i64 id,.int .i64 req,.slice Aa na ca,.int .i64 cnt,.int .i64 ay,.int .i64 au,vo],.int .i64 7,.slice Ad nd cd,.agg #[.int .i64 ic,.int .i64 ii,.slice Ai ni ci],.agg #[.int .i64 ac,.int .i64 ai,.slice An nn cn],.int .i64 tick] w (iR (.slice Ar nr cr) (.slice Aa na ca) ⟨R,mc,mt,mf,wt⟩ (fK ⟨R,mc,mt,mf,wt⟩ ⟨ic,ii,li⟩ ⟨ac,ai,ln⟩ tick acts ⟨st,id,req,E.map aH.o,cnt,ay,au⟩ 7) vo base P w):=by
 subst hnn
 subst hni
 obtain⟨Ao,fq,rfl,-,-⟩:=ownsRow_form hP.1
 have HP:=hid hP
 have HE:=hid hE
 have dz:=hid hna
 have HI:=hid hI
 have HN:=hid hN
 have HD:=hid (And.intro hD hnd)
 have HK:=hid hk
 obtain⟨pn,hpn⟩: ∃pn,P.length=pn:=⟨_,rfl⟩
 have qo:=hid hpn
 rw[hpn] at HP hlo
 rw[hpn]
 clear hP hE hna hI hN hD hnd hk hpn
 have q0:=HK.out.t0
 have q1:=HK.out.t1
 have q2:=HK.out.w0
 have q3:=HK.out.w1
 have q4:=HK.out.c0
 have q5:=HK.out.c1
 have q6:=HK.out.i0
 have q7:=HK.out.i1
 dsimp only at q0 q1 q2 q3 q4 q5 q6 q7
 obtain⟨L,hL⟩: ∃L,E.map aH.o=L:=⟨_,rfl⟩
 have HL:=hid hL
 rw[hL]
 clear hL
 have oI:=hid (qy L)
 obtain⟨⟨eb,ee⟩,henc⟩: ∃y,Op.encR L=y:=⟨_,rfl⟩
 have jc:=hid henc
 rw[henc] at oI
 show Calls _ _ _ _ (iR _ _ _ (⟨st,jY id,jY id,L,dec cnt,tick+wt,au⟩,[⟨1,jY id,(Op.encR L).1⟩]) _ _ _ _)
 rw[henc]
 clear henc
 go_enter Tryz.func56,Tryz.ntmps56
 go_upto_region 1 with(fail)
 refine bY (fun W=>RB W w.heap.size (.slice Ar nr cr) mc mt mf wt st id req (.slice Aa na ca) cnt ay au (.slice Ao pn fq)∧W.heap[w.heap.size+1]? =some (.cells #[.int .i64 ic,.int .i64 ii,.slice Ai li.length ci] 32 (0,0))∧W.heap[w.heap.size+1+1]? =some (.cells #[.int .i64 ac,.int .i64 ai,.slice An ln.length cn] 32 (0,0))∧RB W (w.heap.size+1+1+1) (.slice none 0 0) 0 0 0 0 0 0 0 (.slice none 0 0) 0 0 0 (.slice none 0 0)∧Below w.heap.size w W) ⟨?_,?_,?_,?_,by exact aA⟩ ?_
 ·show(World.alloc _ _).heap[w.heap.size]? =_
  exact hpa
 ·show(World.alloc _ _).heap[w.heap.size+1]? =_
  exact hpa
 ·show(World.alloc _ _).heap[w.heap.size+1+1]? =_
  exact hpa
 ·show(World.alloc _ _).heap[w.heap.size+1+1+1]? =_
  exact hpa
 rintro W1 ⟨hx3,h9,h10,hy3,hb3⟩
 have gX:=hid hx3
 have H9:=hid h9
 have za:=hid h10
 have gY:=hid hy3
 have HB3:=hid hb3
 have fD:=hid (HP.out.below hb3 hb)
 have cK:=hid (cO (r:=(Value.slice Ao pn fq).ownBlock) hb3)
 have oK:=hb3.size
 obtain⟨⟨b0,b1,b2,b3,b4⟩,⟨b5,b6,b7,b8,b9,b10,b11⟩,b12⟩:=hx3.cells
 obtain⟨i0,i1,i2⟩:=cells3 h9
 obtain⟨n0,n1,n2⟩:=cells3 h10
 have k6:=hx3.free 6
 have k7:=hx3.free 7
 have k9:=hx3.free 9
 have k10:=hx3.free 10
 have k11:=hx3.free 11
 have k12:=hx3.free 12
 have l9:=aj h9
 have l10:=aj h10
 have CX:=hx3.lt
 have D5:=hy3.lt
 clear hx3 h9 h10 hy3 hb3
 go_wp2_with fail
 refine(Op.jP Aa na ca E _ w.heap.size oK (HE.out.keep HB3.out) dz.out).mono ?_
 rw[HL.out]
 unfold Op.gK
 rw[jc.out]
 rintro e w2 ⟨v,rfl,hb2,ho2⟩
 obtain⟨A3,c3,rfl,hc3,-⟩:=ownsRow_form ho2
 obtain⟨xs2,d2,rfl⟩:=aB hb2
 have j_:=hid ho2
 clear hb2 ho2 hc3
 have gX:=hid (gX.out.keep (W':=ext W1 xs2 d2) (by exact aA))
 have gY:=hid (gY.out.keep (W':=ext W1 xs2 d2) (by exact aA))
 have fD:=hid (fD.out.below (C:=ext W1 xs2 d2) (by exact aA) (by omega))
 have cK:=hid (show w.grownBy (ext W1 xs2 d2) (Value.slice Ao pn fq).ownBlock from by have:=cK.out;exact grn)
 go_wp2_with fail
 refine(wT Ar Aa A3 nr cr na ca eb.length c3 mc mt mf wt st id req cnt ay au 1 tick eb _ P _ base (by simp[size_ext,grow];omega) fD.out (by have:=qo.out;omega) rfl (.inr (aK j_.out (by omega))) q0 q1 q2 q3 q4 q5 q6 q7).mono ?_
 rintro y w3 ⟨v',P',rfl,hg3,hp3,hpe⟩
 obtain⟨A4,c4,rfl,-,-⟩:=ownsRow_form hp3.1
 obtain⟨p4,yH⟩: ∃p4,P'.length=p4:=⟨_,rfl⟩
 have zQ:=hid yH
 have hx3:=RB.apart (gX.out) hg3 (bW fD.out.1 gX.out (by decide))
 have hy3:=RB.apart (gY.out) hg3 (bW fD.out.1 gY.out (by decide))
 have HPQ:=hid hp3
 have KI:=hid hpe
 rw[yH] at HPQ
 rw[yH]
 clear yH gX gY b0 b1 b2 b3 b4 b5 b6 b7 b8 b9 b10 b11 b12 k6 k7 k9 k10 k11 k12
 have gX:=hid hx3
 have gY:=hid hy3
 obtain⟨⟨b0,b1,b2,b3,b4⟩,⟨b5,b6,b7,b8,b9,b10,b11⟩,b12⟩:=hx3.cells
 have k0:=hx3.free 0
 have k1:=hx3.free 1
 have k2:=hx3.free 2
 have k3:=hx3.free 3
 have k4:=hx3.free 4
 have k5:=hx3.free 5
 have k6:=hx3.free 6
 have k7:=hx3.free 7
 have k8:=hx3.free 8
 have k9:=hx3.free 9
 have k10:=hx3.free 10
 have k11:=hx3.free 11
 have k12:=hx3.free 12
 have lz3:=hx3.lt
 have IK:=hy3.lt
 have VO:=hid (cK.out.trans hg3)
 clear hg3 hp3 hpe hx3 hy3 fD cK
 go_upto_region 12 with(fail)
 refine bY (fun W=>RB W w.heap.size (.slice Ar nr cr) mc mt mf wt st (jY id) req (.slice Aa na ca) (dec cnt) (tick+wt) au (.slice A4 p4 c4)∧RB W (w.heap.size+1+1+1) (.slice none 0 0) 0 0 0 0 0 0 0 (.slice none 0 0) 0 0 0 (.slice none 0 0)∧bS W base (.slice A4 p4 c4) P'∧w.grownBy W (Value.slice Ao pn fq).ownBlock) ⟨jy gX.out rfl _ _ _ _ _ _ _ _ _ _ _ _ _,gY.out.apart (row:=some w.heap.size) grn (by intro e;have:=Option.some.inj e;omega),HPQ.out.other (X:=w.heap.size) grn gX.out hb (by decide) (by decide) (aaF hb VO.out.size),by have h3:=VO.out;exact grn⟩ ?_
 clear gX gY b0 b1 b2 b3 b4 b5 b6 b7 b8 b9 b10 b11 b12 k0 k1 k2 k3 k4 k5 k6 k7 k8 k9 k10 k11 k12 lz3 IK
 rintro w4 ⟨hx3,hy3,hp3,hg3⟩
 have gX:=hid hx3
 have gY:=hid hy3
 have fD:=hid hp3
 have cK:=hid hg3
 obtain⟨⟨b0,b1,b2,b3,b4⟩,⟨b5,b6,b7,b8,b9,b10,b11⟩,b12⟩:=hx3.cells
 obtain⟨⟨y0,y1,y2,y3,y4⟩,⟨y5,y6,y7,y8,y9,tQ,tT⟩,tV⟩:=hy3.cells
 have g0:=hy3.free 0
 have g1:=hy3.free 1
 have g2:=hy3.free 2
 have g3:=hy3.free 3
 have g4:=hy3.free 4
 have g5:=hy3.free 5
 have g6:=hy3.free 6
 have g7:=hy3.free 7
 have g8:=hy3.free 8
 have g9:=hy3.free 9
 have g10:=hy3.free 10
 have g11:=hy3.free 11
 have g12:=hy3.free 12
 have k7:=hx3.free 7
 have lz3:=hx3.lt
 have IK:=hy3.lt
 clear hx3 hy3 hp3 hg3
 go_wp2_with fail
 obtain⟨WT,iE⟩: ∃WT:World,WT=(w4.setCell ⟨w.heap.size,7,none⟩ (Value.int .i64 (jY id))):=⟨_,rfl⟩
 obtain⟨Wf,hWf⟩: ∃Wf:World,Wf=(((((((((((((WT.setCell ⟨(w.heap.size+1+1+1),0,none⟩ (.slice Ar nr cr)).setCell ⟨(w.heap.size+1+1+1),1,none⟩ (.int .i64 mc)).setCell ⟨(w.heap.size+1+1+1),2,none⟩ (.int .i64 mt)).setCell ⟨(w.heap.size+1+1+1),3,none⟩ (.int .i64 mf)).setCell ⟨(w.heap.size+1+1+1),4,none⟩ (.int .i64 wt)).setCell ⟨(w.heap.size+1+1+1),5,none⟩ (.int .i64 st)).setCell ⟨(w.heap.size+1+1+1),6,none⟩ (.int .i64 (jY id))).setCell ⟨(w.heap.size+1+1+1),7,none⟩ (.int .i64 (jY id))).setCell ⟨(w.heap.size+1+1+1),8,none⟩ (.slice Aa na ca)).setCell ⟨(w.heap.size+1+1+1),9,none⟩ (.int .i64 (dec cnt))).setCell ⟨(w.heap.size+1+1+1),10,none⟩ (.int .i64 (tick+wt))).setCell ⟨(w.heap.size+1+1+1),11,none⟩ (.int .i64 au)).setCell ⟨(w.heap.size+1+1+1),12,none⟩ (.slice A4 p4 c4)):=⟨_,rfl⟩
 have bO:Wf=(((((((((((((((w4.setCell ⟨w.heap.size,7,none⟩ (Value.int .i64 (jY id)))).setCell ⟨(w.heap.size+1+1+1),0,none⟩ (.slice Ar nr cr)).setCell ⟨(w.heap.size+1+1+1),1,none⟩ (.int .i64 mc)).setCell ⟨(w.heap.size+1+1+1),2,none⟩ (.int .i64 mt)).setCell ⟨(w.heap.size+1+1+1),3,none⟩ (.int .i64 mf)).setCell ⟨(w.heap.size+1+1+1),4,none⟩ (.int .i64 wt)).setCell ⟨(w.heap.size+1+1+1),5,none⟩ (.int .i64 st)).setCell ⟨(w.heap.size+1+1+1),6,none⟩ (.int .i64 (jY id))).setCell ⟨(w.heap.size+1+1+1),7,none⟩ (.int .i64 (jY id))).setCell ⟨(w.heap.size+1+1+1),8,none⟩ (.slice Aa na ca)).setCell ⟨(w.heap.size+1+1+1),9,none⟩ (.int .i64 (dec cnt))).setCell ⟨(w.heap.size+1+1+1),10,none⟩ (.int .i64 (tick+wt))).setCell ⟨(w.heap.size+1+1+1),11,none⟩ (.int .i64 au)).setCell ⟨(w.heap.size+1+1+1),12,none⟩ (.slice A4 p4 c4)):=by rw[hWf,iE]
 rw[←bO]
 have jN:w4.grownBy WT (some w.heap.size):=by rw[iE];exact grn
 have lS:=gY.out.apart jN (by intro e;have:=Option.some.inj e;omega)
 have hrow:RB Wf (w.heap.size+1+1+1) (.slice Ar nr cr) mc mt mf wt st ((jY id)) ((jY id)) (.slice Aa na ca) ((dec cnt)) ((tick+wt)) (au) ((.slice A4 p4 c4)):=by rw[hWf];exact jy lS rfl _ _ _ _ _ _ _ _ _ _ _ _ _
 have hgr:WT.grownBy Wf (some (w.heap.size+1+1+1)):=by rw[hWf];exact grn
 have hgf:w.grownBy Wf (Value.slice Ao pn fq).ownBlock:=by
  have h3:=cK.out
  rw[hWf,iE]
  exact grn
 have uT:=fD.out.other jN gX.out hb (by decide) (by decide) (aaF hb cK.out.size)
 have hpf:=uT.other hgr lS (by omega) (by decide) (by decide) (aaF hb (aaF cK.out.size jN.size))
 clear hWf bO iE b0 b1 b2 b3 b4 b5 b6 b7 b8 b9 b10 b11 b12 y0 y1 y2 y3 y4 y5 y6 y7 y8 y9 tQ tT tV g0 g1 g2 g3 g4 g5 g6 g7 g8 g9 g10 g11 g12
 obtain⟨⟨u0,u1,u2,u3,u4⟩,⟨u5,u6,u7,u8,u9,sK,sM⟩,sN⟩:=hrow.cells
 refine bodyPost_ret (v:=.agg #[.slice Ar nr cr,.int .i64 mc,.int .i64 mt,.int .i64 mf,.int .i64 wt,.int .i64 st,.int .i64 ((jY id)),.int .i64 ((jY id)),.slice Aa na ca,.int .i64 ((dec cnt)),.int .i64 ((tick+wt)),.int .i64 (au),(.slice A4 p4 c4)]) (by simp[results,Tryz.results56,go_sem,u0,u1,u2,u3,u4,u5,u6,u7,u8,u9,sK,sM,sN]) rfl ?_
 exact⟨_,P',rfl,hgf,hpf,KI.out⟩
theorem Ov (ic ii j:Int) (A:Option Addr) (n c:Nat) (l:List UInt8) (w:World) (B:Nat) (hB:B≤w.heap.size) (hA:At w B A (l.map bv)) (hn:n=l.length) (hl:n≤1000000000) (hj:bC j 0 255=true) (he:Cp.aV ic ii l.length=0):
  Calls Tryz.prog 92 #[.agg #[.int .i64 ic,.int .i64 ii,.slice A n c],.int .i64 j] w fun x w'=> ∃(A3:Option Addr) (n3 c3:Nat),x=.returned (.tuple #[.agg #[.int .i64 7,.int .i64 j,.slice A3 n3 c3],.int .i64 0])∧n3≤c3∧n3=((Cp.fZ ic ii l).take 1488).length∧Below w.heap.size w w'∧w'.ownsRow w.heap.size 5 1 (.slice A3 n3 c3) n3 (((Cp.fZ ic ii l).take 1488).map bv):=by
 refine(Cp.D_ ic ii A n c l j w B hB hA hn hl).mono ?_
 rw[qH hj,he]
 rintro e w2 ⟨v,rfl,hb2,ho2⟩
 obtain⟨A3,c3,rfl,hc3,-⟩:=ownsRow_form ho2
 exact⟨A3,_,c3,rfl,hc3,rfl,hb2,ho2⟩
theorem Jy (ic ii j er:Int) (A:Option Addr) (n c:Nat) (l:List UInt8) (w:World) (B:Nat) (hB:B≤w.heap.size) (hA:At w B A (l.map bv)) (hn:n=l.length) (hl:n≤1000000000) (hj:bC j 0 255=true) (he:Cp.aV ic ii l.length=er) (h0:er≠0):
  Calls Tryz.prog 92 #[.agg #[.int .i64 ic,.int .i64 ii,.slice A n c],.int .i64 j] w fun x w'=> ∃(A3:Option Addr) (n3 c3:Nat),x=.returned (.tuple #[.agg #[.int .i64 0,.int .i64 0,.slice A3 n3 c3],.int .i64 er])∧Below w.heap.size w w':=by
 refine(Cp.D_ ic ii A n c l j w B hB hA hn hl).mono ?_
 rw[qH hj,he]
 rintro e w2 ⟨v,rfl,hb2,ho2⟩
 obtain⟨A3,c3,rfl,hc3,-⟩:=ownsRow_form ho2
 exact⟨A3,_,c3,by unfold Cp.rK;rw[if_neg h0,if_neg h0],hb2⟩
set_option maxRecDepth 100000 in
theorem Og (Ar Aa Ai An Ad:Option Addr) (nr cr na ca ni ci nn cn nd cd:Nat) (mc mt mf wt st id req cnt ay au ic ii ac ai tick:Int) (E:List aH) (R:List Rl) (li ln:List UInt8) (acts:List Int) (vo:Value) (P:List Pe) (w:World) (base:Nat) (hb:base≤w.heap.size) (hP:bS w base vo P) (hlo:P.length≤999) (hE:aJ w w.heap.size Aa E) (hna:na=E.length) (hI:At w base Ai (li.map bv)) (hni:ni=li.length) (hci:ni≤ci) (iF:ni≤400000000) (hN:At w base An (ln.map bv)) (hnn:nn=ln.length) (hcn:nn≤cn) (hD:At w w.heap.size Ad (acts.map av)) (hnd:nd=acts.length) (kN:nd≤1000) (hk:gN ⟨R,mc,mt,mf,wt⟩ ⟨st,id,req,E.map aH.o,cnt,ay,au⟩ tick):Calls Tryz.prog 56 #[.agg #[.slice Ar nr cr,.int .i64 mc,.int .i64 mt,.int .i64 mf,.int .i64 wt,.int .i64 st,.int .i64 id,.int .i64 req,.slice Aa na ca,.int .i64 cnt,.int .i64 ay,.int .i64 au,vo],.int .i64 12,.slice Ad nd cd,.agg #[.int .i64 ic,.int .i64 ii,.slice Ai ni ci],.agg #[.int .i64 ac,.int .i64 ai,.slice An nn cn],.int .i64 tick] w (iR (.slice Ar nr cr) (.slice Aa na ca) ⟨R,mc,mt,mf,wt⟩ (fK ⟨R,mc,mt,mf,wt⟩ ⟨ic,ii,li⟩ ⟨ac,ai,ln⟩ tick acts ⟨st,id,req,E.map aH.o,cnt,ay,au⟩ 12) vo base P w):=by
 subst hnn
 subst hni
 obtain⟨Ao,fq,rfl,-,-⟩:=ownsRow_form hP.1
 have HP:=hid hP
 have HE:=hid hE
 have dz:=hid hna
 have HI:=hid hI
 have HN:=hid hN
 have HD:=hid (And.intro hD hnd)
 have HK:=hid hk
 obtain⟨pn,hpn⟩: ∃pn,P.length=pn:=⟨_,rfl⟩
 have qo:=hid hpn
 rw[hpn] at HP hlo
 rw[hpn]
 clear hP hE hna hI hN hD hnd hk hpn
 have q6:=HK.out.i0
 have q7:=HK.out.i1
 dsimp only at q6 q7
 have HM:=hid (show li.length≤1000000000 by omega)
 show Calls _ _ _ _ (iR _ _ _ (⟨st,jY id,req,E.map aH.o,cnt,ay,au⟩,rQ ic ii li (jY id)) _ _ _ _)
 have e1:Int.tmod (id+1) 256=jY id:=Int.tmod_eq_emod_of_nonneg (by omega)
 obtain⟨hj0,hj1⟩:=yN id
 obtain⟨j,hj⟩: ∃j,jY id=j:=⟨_,rfl⟩
 rw[hj] at e1 hj0 hj1
 rw[hj]
 have HJ2:=hid (show bC j 0 255=true by simp[bC];omega)
 clear hj
 obtain⟨er,her⟩: ∃er,Cp.aV ic ii li.length=er:=⟨_,rfl⟩
 have tC:=hid her
 clear her
 by_cases h0:er=0
 focus
  subst h0
  have KL:=hid (show rQ ic ii li j=[⟨7,j,(Cp.fZ ic ii li).take 1488⟩] by unfold rQ;rw[if_pos tC.out])
  obtain⟨rj,Zt⟩: ∃rj,(Cp.fZ ic ii li).take 1488=rj:=⟨_,rfl⟩
  rw[KL.out,Zt]
  have HRJ:=hid Zt
  clear Zt KL
 rotate_left
 focus
  have KL:=hid (show rQ ic ii li j=[] by unfold rQ;rw[if_neg (by rw[tC.out];exact h0)])
  rw[KL.out]
  have h0':(er==0)=false:=by simpa using h0
  have BD:=hid h0
  clear h0 KL
 rotate_left
 all_goals
  go_enter Tryz.func56,Tryz.ntmps56
  go_upto_region 1 with(fail)
  refine bY (fun W=>RB W w.heap.size (.slice Ar nr cr) mc mt mf wt st id req (.slice Aa na ca) cnt ay au (.slice Ao pn fq)∧W.heap[w.heap.size+1]? =some (.cells #[.int .i64 ic,.int .i64 ii,.slice Ai li.length ci] 32 (0,0))∧W.heap[w.heap.size+1+1]? =some (.cells #[.int .i64 ac,.int .i64 ai,.slice An ln.length cn] 32 (0,0))∧RB W (w.heap.size+1+1+1) (.slice none 0 0) 0 0 0 0 0 0 0 (.slice none 0 0) 0 0 0 (.slice none 0 0)∧Below w.heap.size w W) ⟨?_,?_,?_,?_,by exact aA⟩ ?_
  ·show(World.alloc _ _).heap[w.heap.size]? =_
   exact hpa
  ·show(World.alloc _ _).heap[w.heap.size+1]? =_
   exact hpa
  ·show(World.alloc _ _).heap[w.heap.size+1+1]? =_
   exact hpa
  ·show(World.alloc _ _).heap[w.heap.size+1+1+1]? =_
   exact hpa
  rintro W1 ⟨hx3,h9,h10,hy3,hb3⟩
  have gX:=hid hx3
  have H9:=hid h9
  have za:=hid h10
  have gY:=hid hy3
  have HB3:=hid hb3
  have fD:=hid (HP.out.below hb3 hb)
  have cK:=hid (cO (r:=(Value.slice Ao pn fq).ownBlock) hb3)
  have oK:=hb3.size
  obtain⟨⟨b0,b1,b2,b3,b4⟩,⟨b5,b6,b7,b8,b9,b10,b11⟩,b12⟩:=hx3.cells
  obtain⟨i0,i1,i2⟩:=cells3 h9
  obtain⟨n0,n1,n2⟩:=cells3 h10
  have k6:=hx3.free 6
  have k7:=hx3.free 7
  have k9:=hx3.free 9
  have k10:=hx3.free 10
  have k11:=hx3.free 11
  have k12:=hx3.free 12
  have l9:=aj h9
  have l10:=aj h10
  have CX:=hx3.lt
  have D5:=hy3.lt
  clear hx3 h9 h10 hy3 hb3
  go_wp2_with fail
 focus
  refine(Ov ic ii j Ai li.length ci li _ base (by simp;omega) (HI.out.keep (by have:=HB3.out.mono hb;exact aA)) rfl HM.out HJ2.out tC.out).mono ?_
  rw[HRJ.out]
  rintro e w2 ⟨A3,n3,c3,rfl,hc3,rfl,hb2,ho2⟩
  obtain⟨xs2,d2,rfl⟩:=aB hb2
  have j_:=hid ho2
  have zk:=hid hc3
  clear hb2 ho2 hc3
  go_upto_region 30 with(fail)
  obtain⟨T,hT⟩: ∃T,T=grow W1.heap.size xs2:=⟨_,rfl⟩
  rw[←hT]
  refine bY (fun W=>RB W w.heap.size (.slice Ar nr cr) mc mt mf wt st j req (.slice Aa na ca) cnt ay au (.slice Ao pn fq)∧RB W (w.heap.size+1+1+1) (.slice none 0 0) 0 0 0 0 0 0 0 (.slice none 0 0) 0 0 0 (.slice none 0 0)∧bS W base (.slice Ao pn fq) P∧w.grownBy W (Value.slice Ao pn fq).ownBlock∧W.heap[T]? =some (.cells #[.int .i64 7,.int .i64 j,.slice A3 rj.length c3] 32 (0,0))∧W.ownsRow base 5 1 (.slice A3 rj.length c3) rj.length (rj.map bv)) ⟨(RB.keep (gX.out.Z5 j) (by exact aA)),(RB.keep (show RB (W1.setCell ⟨w.heap.size,6,none⟩ (.int .i64 j)) (w.heap.size+1+1+1) (.slice none 0 0) 0 0 0 0 0 0 0 (.slice none 0 0) 0 0 0 (.slice none 0 0) from(heap_setCell_other _ _ _ _ (by simp;omega)).trans gY.out) (by exact aA)),(bS.below (fD.out.other (bV W1 w.heap.size 6 (.int .i64 j)) gX.out hb (by decide) (by decide) (aaF hb oK)) (by exact aA) (by simp;omega)),by have:=cK.out;exact grn,by rw[hT];exact aF _ _ _ (by simp[size_ext]),own_below (aK j_.out (by simp;omega)) (by exact aA)⟩ ?_
  clear hT
  rintro W5 ⟨hx3,hy3,hp3,hg3,iq,hd5⟩
 rotate_left
 focus
  refine(Jy ic ii j er Ai li.length ci li _ base (by simp;omega) (HI.out.keep (by have:=HB3.out.mono hb;exact aA)) rfl HM.out HJ2.out tC.out BD.out).mono ?_
  rintro e w2 ⟨A3,n3,c3,rfl,hb2⟩
  obtain⟨xs2,d2,rfl⟩:=aB hb2
  clear hb2
  go_upto_region 31 with(fail)
  refine bY (fun W=>RB W w.heap.size (.slice Ar nr cr) mc mt mf wt st j req (.slice Aa na ca) cnt ay au (.slice Ao pn fq)∧RB W (w.heap.size+1+1+1) (.slice none 0 0) 0 0 0 0 0 0 0 (.slice none 0 0) 0 0 0 (.slice none 0 0)∧bS W base (.slice Ao pn fq) P∧w.grownBy W (Value.slice Ao pn fq).ownBlock) ⟨(RB.keep (gX.out.Z5 j) (by exact aA)),(RB.keep (show RB (W1.setCell ⟨w.heap.size,6,none⟩ (.int .i64 j)) (w.heap.size+1+1+1) (.slice none 0 0) 0 0 0 0 0 0 0 (.slice none 0 0) 0 0 0 (.slice none 0 0) from(heap_setCell_other _ _ _ _ (by simp;omega)).trans gY.out) (by exact aA)),(bS.below (fD.out.other (bV W1 w.heap.size 6 (.int .i64 j)) gX.out hb (by decide) (by decide) (aaF hb oK)) (by exact aA) (by simp;omega)),by have:=cK.out;exact grn⟩ ?_
  rintro W5 ⟨hx3,hy3,hp3,hg3⟩
 rotate_left
 all_goals
  clear gX gY fD cK b0 b1 b2 b3 b4 b5 b6 b7 b8 b9 b10 b11 b12 k6 k7 k9 k10 k11 k12 CX D5 i0 i1 i2 n0 n1 n2
  have gX:=hid hx3
  have gY:=hid hy3
  have fD:=hid hp3
  have cK:=hid hg3
  have CX:=hx3.lt
  have D5:=hy3.lt
  obtain⟨⟨b0,b1,b2,b3,b4⟩,⟨b5,b6,b7,b8,b9,b10,b11⟩,b12⟩:=hx3.cells
  have k12:=hx3.free 12
  have k6:=hx3.free 6
  have k7:=hx3.free 7
  have k9:=hx3.free 9
  have k10:=hx3.free 10
  have k11:=hx3.free 11
 focus
  have HD5:=hid hd5
  obtain⟨i0,i1,i2⟩:=cells3 iq
  have vg:=aj iq
  clear hx3 hy3 hp3 hg3 iq hd5
  go_wp2_with (at_builtin;go_loud (refine iy base rfl (.tmp 137) (.tmp 139) 43 rfl 32 Tryz.underlying43 (.agg #[.int .i64 0,.int .i64 0,.slice none 0 0]) 3 40 kV rfl (by decide) (by decide) (.slice Ao pn fq) pn (eX P) rfl (by have h:=fD.out.1;rw[qo.out] at h;exact own_below h (by exact aA)) ((W5).heap.size+1) (some ⟨(W5).heap.size,0,none⟩) 1 1 [.int .i64 (7),.int .i64 (j),.slice (A3) (rj.length) (c3)] rfl rfl (by omega) (by exact At.gW _ _ _ _ _ (by simp) rfl) (by intro u hu;simp at hu;rcases hu with rfl|rfl|rfl<;>rfl) (by simp;omega) ?_);intro A4 c4 w3 ho3 hc3 hg3;have hx3:=RB.apart (RB.keep gX.out (by exact aA)) hg3 (bW fD.out.1 gX.out (by decide));have hy3:=RB.apart (RB.keep gY.out (by exact aA)) hg3 (bW fD.out.1 gY.out (by decide));have zQ:=hid (bS.pushed (co:=7) (id:=j) (fD.out.below (C:=(W5).alloc (.cells #[.int .i64 (7),.int .i64 (j),.slice (A3) (rj.length) (c3)] 32)) (by exact aA) (by omega)) (.inr (own_below HD5.out (by exact aA))) (by rw[qo.out];exact ho3) hg3 (by simp;omega));have t_:=hid (World.grownBy.trans (show w.grownBy ((W5).alloc (.cells #[.int .i64 (7),.int .i64 (j),.slice (A3) (rj.length) (c3)] 32)) (Value.slice Ao pn fq).ownBlock from by have:=cK.out;exact grn) hg3);have BF:=hid hg3;clear gX gY fD cK b0 b1 b2 b3 b4 b5 b6 b7 b8 b9 b10 b11 b12 k6 k7 k9 k10 k11 k12;have gX:=hid hx3;have gY:=hid hy3;have fD:=zQ;have cK:=t_;obtain⟨⟨b0,b1,b2,b3,b4⟩,⟨b5,b6,b7,b8,b9,b10,b11⟩,b12⟩:=hx3.cells;obtain⟨⟨y0,y1,y2,y3,y4⟩,⟨y5,y6,y7,y8,y9,tQ,tT⟩,tV⟩:=hy3.cells;have g0:=hy3.free 0;have g1:=hy3.free 1;have g2:=hy3.free 2;have g3:=hy3.free 3;have g4:=hy3.free 4;have g5:=hy3.free 5;have g6:=hy3.free 6;have g7:=hy3.free 7;have g8:=hy3.free 8;have g9:=hy3.free 9;have g10:=hy3.free 10;have g11:=hy3.free 11;have g12:=hy3.free 12;have k6:=hx3.free 6;have k7:=hx3.free 7;have k9:=hx3.free 9;have k10:=hx3.free 10;have k11:=hx3.free 11;have k12:=hx3.free 12;have lz3:=hx3.lt;have IK:=hy3.lt;clear ho3 hc3 hg3 hx3 hy3)
  obtain⟨WT,iE⟩: ∃WT:World,WT=(w3.setCell ⟨w.heap.size,12,none⟩ (Value.slice A4 (pn+1) c4)):=⟨_,rfl⟩
  obtain⟨Wf,hWf⟩: ∃Wf:World,Wf=(((((((((((((WT.setCell ⟨(w.heap.size+1+1+1),0,none⟩ (.slice Ar nr cr)).setCell ⟨(w.heap.size+1+1+1),1,none⟩ (.int .i64 mc)).setCell ⟨(w.heap.size+1+1+1),2,none⟩ (.int .i64 mt)).setCell ⟨(w.heap.size+1+1+1),3,none⟩ (.int .i64 mf)).setCell ⟨(w.heap.size+1+1+1),4,none⟩ (.int .i64 wt)).setCell ⟨(w.heap.size+1+1+1),5,none⟩ (.int .i64 st)).setCell ⟨(w.heap.size+1+1+1),6,none⟩ (.int .i64 j)).setCell ⟨(w.heap.size+1+1+1),7,none⟩ (.int .i64 req)).setCell ⟨(w.heap.size+1+1+1),8,none⟩ (.slice Aa na ca)).setCell ⟨(w.heap.size+1+1+1),9,none⟩ (.int .i64 cnt)).setCell ⟨(w.heap.size+1+1+1),10,none⟩ (.int .i64 ay)).setCell ⟨(w.heap.size+1+1+1),11,none⟩ (.int .i64 au)).setCell ⟨(w.heap.size+1+1+1),12,none⟩ (.slice A4 (pn+1) c4)):=⟨_,rfl⟩
  have bO:Wf=(((((((((((((((w3.setCell ⟨w.heap.size,12,none⟩ (Value.slice A4 (pn+1) c4))).setCell ⟨(w.heap.size+1+1+1),0,none⟩ (.slice Ar nr cr)).setCell ⟨(w.heap.size+1+1+1),1,none⟩ (.int .i64 mc)).setCell ⟨(w.heap.size+1+1+1),2,none⟩ (.int .i64 mt)).setCell ⟨(w.heap.size+1+1+1),3,none⟩ (.int .i64 mf)).setCell ⟨(w.heap.size+1+1+1),4,none⟩ (.int .i64 wt)).setCell ⟨(w.heap.size+1+1+1),5,none⟩ (.int .i64 st)).setCell ⟨(w.heap.size+1+1+1),6,none⟩ (.int .i64 j)).setCell ⟨(w.heap.size+1+1+1),7,none⟩ (.int .i64 req)).setCell ⟨(w.heap.size+1+1+1),8,none⟩ (.slice Aa na ca)).setCell ⟨(w.heap.size+1+1+1),9,none⟩ (.int .i64 cnt)).setCell ⟨(w.heap.size+1+1+1),10,none⟩ (.int .i64 ay)).setCell ⟨(w.heap.size+1+1+1),11,none⟩ (.int .i64 au)).setCell ⟨(w.heap.size+1+1+1),12,none⟩ (.slice A4 (pn+1) c4)):=by rw[hWf,iE]
  rw[←bO]
  have jN:w3.grownBy WT (some w.heap.size):=by rw[iE];exact grn
  have lS:=gY.out.apart jN (by intro e;have:=Option.some.inj e;omega)
  have hrow:RB Wf (w.heap.size+1+1+1) (.slice Ar nr cr) mc mt mf wt st (j) (req) (.slice Aa na ca) (cnt) (ay) (au) ((.slice A4 (pn+1) c4)):=by rw[hWf];exact jy lS rfl _ _ _ _ _ _ _ _ _ _ _ _ _
 rotate_left
 focus
  clear hx3 hy3 hp3 hg3
  obtain⟨w3,hw3⟩: ∃w3,w3=W5:=⟨_,rfl⟩
  rw[←hw3] at gX gY fD cK CX D5 b0 b1 b2 b3 b4 b5 b6 b7 b8 b9 b10 b11 b12 k12 k6 k7 k9 k10 k11 ⊢
  clear hw3
  have hy3:=gY.out
  obtain⟨⟨y0,y1,y2,y3,y4⟩,⟨y5,y6,y7,y8,y9,tQ,tT⟩,tV⟩:=hy3.cells
  have g0:=hy3.free 0
  have g1:=hy3.free 1
  have g2:=hy3.free 2
  have g3:=hy3.free 3
  have g4:=hy3.free 4
  have g5:=hy3.free 5
  have g6:=hy3.free 6
  have g7:=hy3.free 7
  have g8:=hy3.free 8
  have g9:=hy3.free 9
  have g10:=hy3.free 10
  have g11:=hy3.free 11
  have g12:=hy3.free 12
  clear hy3
  go_wp2_with fail
  obtain⟨WT,iE⟩: ∃WT:World,WT=w3:=⟨_,rfl⟩
  obtain⟨Wf,hWf⟩: ∃Wf:World,Wf=(((((((((((((WT.setCell ⟨(w.heap.size+1+1+1),0,none⟩ (.slice Ar nr cr)).setCell ⟨(w.heap.size+1+1+1),1,none⟩ (.int .i64 mc)).setCell ⟨(w.heap.size+1+1+1),2,none⟩ (.int .i64 mt)).setCell ⟨(w.heap.size+1+1+1),3,none⟩ (.int .i64 mf)).setCell ⟨(w.heap.size+1+1+1),4,none⟩ (.int .i64 wt)).setCell ⟨(w.heap.size+1+1+1),5,none⟩ (.int .i64 st)).setCell ⟨(w.heap.size+1+1+1),6,none⟩ (.int .i64 j)).setCell ⟨(w.heap.size+1+1+1),7,none⟩ (.int .i64 req)).setCell ⟨(w.heap.size+1+1+1),8,none⟩ (.slice Aa na ca)).setCell ⟨(w.heap.size+1+1+1),9,none⟩ (.int .i64 cnt)).setCell ⟨(w.heap.size+1+1+1),10,none⟩ (.int .i64 ay)).setCell ⟨(w.heap.size+1+1+1),11,none⟩ (.int .i64 au)).setCell ⟨(w.heap.size+1+1+1),12,none⟩ (.slice Ao pn fq)):=⟨_,rfl⟩
  have bO:Wf=((((((((((((((w3).setCell ⟨(w.heap.size+1+1+1),0,none⟩ (.slice Ar nr cr)).setCell ⟨(w.heap.size+1+1+1),1,none⟩ (.int .i64 mc)).setCell ⟨(w.heap.size+1+1+1),2,none⟩ (.int .i64 mt)).setCell ⟨(w.heap.size+1+1+1),3,none⟩ (.int .i64 mf)).setCell ⟨(w.heap.size+1+1+1),4,none⟩ (.int .i64 wt)).setCell ⟨(w.heap.size+1+1+1),5,none⟩ (.int .i64 st)).setCell ⟨(w.heap.size+1+1+1),6,none⟩ (.int .i64 j)).setCell ⟨(w.heap.size+1+1+1),7,none⟩ (.int .i64 req)).setCell ⟨(w.heap.size+1+1+1),8,none⟩ (.slice Aa na ca)).setCell ⟨(w.heap.size+1+1+1),9,none⟩ (.int .i64 cnt)).setCell ⟨(w.heap.size+1+1+1),10,none⟩ (.int .i64 ay)).setCell ⟨(w.heap.size+1+1+1),11,none⟩ (.int .i64 au)).setCell ⟨(w.heap.size+1+1+1),12,none⟩ (.slice Ao pn fq)):=by rw[hWf,iE]
  rw[←bO]
  have jN:w3.grownBy WT (some w.heap.size):=by rw[iE];exact grn
  have lS:=gY.out.apart jN (by intro e;have:=Option.some.inj e;omega)
  have hrow:RB Wf (w.heap.size+1+1+1) (.slice Ar nr cr) mc mt mf wt st (j) (req) (.slice Aa na ca) (cnt) (ay) (au) ((.slice Ao pn fq)):=by rw[hWf];exact jy lS rfl _ _ _ _ _ _ _ _ _ _ _ _ _
 rotate_left
 all_goals
  have hgr:WT.grownBy Wf (some (w.heap.size+1+1+1)):=by rw[hWf];exact grn
  have hgf:w.grownBy Wf (Value.slice Ao pn fq).ownBlock:=by
   have h3:=cK.out
   rw[hWf,iE]
   exact grn
  have uT:=fD.out.other jN gX.out hb (by decide) (by decide) (aaF hb cK.out.size)
  have hpf:=uT.other hgr lS (by omega) (by decide) (by decide) (aaF hb (aaF cK.out.size jN.size))
  clear hWf bO iE b0 b1 b2 b3 b4 b5 b6 b7 b8 b9 b10 b11 b12 y0 y1 y2 y3 y4 y5 y6 y7 y8 y9 tQ tT tV g0 g1 g2 g3 g4 g5 g6 g7 g8 g9 g10 g11 g12
  obtain⟨⟨u0,u1,u2,u3,u4⟩,⟨u5,u6,u7,u8,u9,sK,sM⟩,sN⟩:=hrow.cells
 ·refine bodyPost_ret (v:=.agg #[.slice Ar nr cr,.int .i64 mc,.int .i64 mt,.int .i64 mf,.int .i64 wt,.int .i64 st,.int .i64 (j),.int .i64 (req),.slice Aa na ca,.int .i64 (cnt),.int .i64 (ay),.int .i64 (au),(.slice A4 (pn+1) c4)]) (by simp[results,Tryz.results56,go_sem,u0,u1,u2,u3,u4,u5,u6,u7,u8,u9,sK,sM,sN]) rfl ?_
  exact⟨_,_,rfl,hgf,hpf,by rw[List.map_append];rfl⟩
 ·refine bodyPost_ret (v:=.agg #[.slice Ar nr cr,.int .i64 mc,.int .i64 mt,.int .i64 mf,.int .i64 wt,.int .i64 st,.int .i64 (j),.int .i64 (req),.slice Aa na ca,.int .i64 (cnt),.int .i64 (ay),.int .i64 (au),(.slice Ao pn fq)]) (by simp[results,Tryz.results56,go_sem,u0,u1,u2,u3,u4,u5,u6,u7,u8,u9,sK,sM,sN]) rfl ?_
  exact⟨_,_,rfl,hgf,hpf,by rw[List.append_nil]⟩
set_option maxRecDepth 100000 in
theorem I9 (x:Int) (Ar Aa Ai An Ad:Option Addr) (nr cr na ca ni ci nn cn nd cd:Nat) (mc mt mf wt st id req cnt ay au ic ii ac ai tick:Int) (E:List aH) (R:List Rl) (li ln:List UInt8) (acts:List Int) (vo:Value) (P:List Pe) (w:World) (base:Nat) (hb:base≤w.heap.size) (hP:bS w base vo P) (hlo:P.length≤999) (hE:aJ w w.heap.size Aa E) (hna:na=E.length) (hI:At w base Ai (li.map bv)) (hni:ni=li.length) (hci:ni≤ci) (iF:ni≤400000000) (hN:At w base An (ln.map bv)) (hnn:nn=ln.length) (hcn:nn≤cn) (hD:At w w.heap.size Ad (acts.map av)) (hnd:nd=acts.length) (kN:nd≤1000) (hk:gN ⟨R,mc,mt,mf,wt⟩ ⟨st,id,req,E.map aH.o,cnt,ay,au⟩ tick):Calls Tryz.prog 56 #[.agg #[.slice Ar nr cr,.int .i64 mc,.int .i64 mt,.int .i64 mf,.int .i64 wt,.int .i64 st,.int .i64 id,.int .i64 req,.slice Aa na ca,.int .i64 cnt,.int .i64 ay,.int .i64 au,vo],.int .i64 x,.slice Ad nd cd,.agg #[.int .i64 ic,.int .i64 ii,.slice Ai ni ci],.agg #[.int .i64 ac,.int .i64 ai,.slice An nn cn],.int .i64 tick] w (iR (.slice Ar nr cr) (.slice Aa na ca) ⟨R,mc,mt,mf,wt⟩ (fK ⟨R,mc,mt,mf,wt⟩ ⟨ic,ii,li⟩ ⟨ac,ai,ln⟩ tick acts ⟨st,id,req,E.map aH.o,cnt,ay,au⟩ x) vo base P w):=by
 have hx:x=5∨x=6∨x=7∨x=8∨x=9∨x=10∨x=11∨x=12∨x=13∨(x≠5∧x≠6∧x≠7∧x≠8∧x≠9∧x≠10∧x≠11∧x≠12∧x≠13):=by omega
 rcases hx with rfl|rfl|rfl|rfl|rfl|rfl|rfl|rfl|rfl|hx
 ·exact UJ Ar Aa Ai An Ad nr cr na ca ni ci nn cn nd cd mc mt mf wt st id req cnt ay au ic ii ac ai tick E R li ln acts vo P w base hb hP hlo hE hna hI hni hci iF hN hnn hcn hD hnd kN hk
 ·exact UK Ar Aa Ai An Ad nr cr na ca ni ci nn cn nd cd mc mt mf wt st id req cnt ay au ic ii ac ai tick E R li ln acts vo P w base hb hP hlo hE hna hI hni hci iF hN hnn hcn hD hnd kN hk
 ·exact UL Ar Aa Ai An Ad nr cr na ca ni ci nn cn nd cd mc mt mf wt st id req cnt ay au ic ii ac ai tick E R li ln acts vo P w base hb hP hlo hE hna hI hni hci iF hN hnn hcn hD hnd kN hk
 ·exact UM Ar Aa Ai An Ad nr cr na ca ni ci nn cn nd cd mc mt mf wt st id req cnt ay au ic ii ac ai tick E R li ln acts vo P w base hb hP hlo hE hna hI hni hci iF hN hnn hcn hD hnd kN hk
 ·exact UN Ar Aa Ai An Ad nr cr na ca ni ci nn cn nd cd mc mt mf wt st id req cnt ay au ic ii ac ai tick E R li ln acts vo P w base hb hP hlo hE hna hI hni hci iF hN hnn hcn hD hnd kN hk
 ·exact Od Ar Aa Ai An Ad nr cr na ca ni ci nn cn nd cd mc mt mf wt st id req cnt ay au ic ii ac ai tick E R li ln acts vo P w base hb hP hlo hE hna hI hni hci iF hN hnn hcn hD hnd kN hk
 ·exact Oe Ar Aa Ai An Ad nr cr na ca ni ci nn cn nd cd mc mt mf wt st id req cnt ay au ic ii ac ai tick E R li ln acts vo P w base hb hP hlo hE hna hI hni hci iF hN hnn hcn hD hnd kN hk
 ·exact Og Ar Aa Ai An Ad nr cr na ca ni ci nn cn nd cd mc mt mf wt st id req cnt ay au ic ii ac ai tick E R li ln acts vo P w base hb hP hlo hE hna hI hni hci iF hN hnn hcn hD hnd kN hk
 ·exact Oh Ar Aa Ai An Ad nr cr na ca ni ci nn cn nd cd mc mt mf wt st id req cnt ay au ic ii ac ai tick E R li ln acts vo P w base hb hP hlo hE hna hI hni hci iF hN hnn hcn hD hnd kN hk
 ·exact Oi x hx Ar Aa Ai An Ad nr cr na ca ni ci nn cn nd cd mc mt mf wt st id req cnt ay au ic ii ac ai tick E R li ln acts vo P w base hb hP hlo hE hna hI hni hci iF hN hnn hcn hD hnd kN hk
end Go.Proofs.YtfkgmbknfnhjoaaGreat
