/- Bundle PH. -/
import Derived.Test.YtfkgmbknfnhjoaaGreatRPG
set_option maxHeartbeats 8000000
namespace Go.Proofs.YtfkgmbknfnhjoaaGreat
open Lib (hid)
open Go.RowKit
set_option linter.unusedSimpArgs false
set_option linter.unusedVariables false
set_option linter.ambiguousOpen false
open Ne (Rl Opt RulesAt areB)
open Fs (av hasB)
set_option maxRecDepth 100000 in
theorem ract_10 (Ar Aa Ai An Ad:Option Addr) (nr cr na ca ni ci nn cn nd cd:Nat) (mc mt mf wt st id req cnt tim nak ic ii ac ai tick:Int) (E:List Ent) (R:List Rl) (li ln:List UInt8) (acts:List Int) (vo:Value) (P:List Pe) (w:World) (base:Nat) (hb:base≤w.heap.size) (hP:RowPks w base vo P) (hlo:P.length≤999) (hE:OptsAt w w.heap.size Aa E) (hna:na=E.length) (hI:At w base Ai (li.map bv)) (hni:ni=li.length) (hci:ni≤ci) (hli:ni≤400000000) (hN:At w base An (ln.map bv)) (hnn:nn=ln.length) (hcn:nn≤cn) (hD:At w w.heap.size Ad (acts.map av)) (hnd:nd=acts.length) (hnd3:nd≤1000) (hk:NumOk ⟨R,mc,mt,mf,wt⟩ ⟨st,id,req,E.map Ent.o,cnt,tim,nak⟩ tick):Calls Tryz.prog 56 #[.agg #[.slice Ar nr cr,.int .i64 mc,.int .i64 mt,.int .i64 mf,.int .i64 wt,.int .i64 st,.int .i64 id,.int .i64 req,.slice Aa na ca,.int .i64 cnt,.int .i64 tim,.int .i64 nak,vo],.int .i64 10,.slice Ad nd cd,.agg #[.int .i64 ic,.int .i64 ii,.slice Ai ni ci],.agg #[.int .i64 ac,.int .i64 ai,.slice An nn cn],.int .i64 tick] w (ActRP (.slice Ar nr cr) (.slice Aa na ca) ⟨R,mc,mt,mf,wt⟩ (actO ⟨R,mc,mt,mf,wt⟩ ⟨ic,ii,li⟩ ⟨ac,ai,ln⟩ tick acts ⟨st,id,req,E.map Ent.o,cnt,tim,nak⟩ 10) vo base P w):=by
 subst hnn
 subst hni
 obtain⟨Ao,co',rfl,-,-⟩:=ownsRow_form hP.1
 have HP:=hid hP
 have HE:=hid hE
 have HNA:=hid hna
 have HI:=hid hI
 have HN:=hid hN
 have HD:=hid (And.intro hD hnd)
 have HK:=hid hk
 obtain⟨pn,hpn⟩: ∃pn,P.length=pn:=⟨_,rfl⟩
 have HPN:=hid hpn
 rw[hpn] at HP hlo
 rw[hpn]
 clear hP hE hna hI hN hD hnd hk hpn
 have q0:=HK.out.t0
 have q1:=HK.out.t1
 have q2:=HK.out.w0
 have q3:=HK.out.w1
 have q4:=HK.out.c0
 have q5:=HK.out.c1
 have q6:=HK.out.i0
 have q7:=HK.out.i1
 dsimp only at q0 q1 q2 q3 q4 q5 q6 q7
 show Calls _ _ _ _ (ActRP _ _ _ (⟨st,nxt id,req,E.map Ent.o,dec cnt,tick+wt,nak⟩,[⟨5,nxt id,[]⟩]) _ _ _ _)
 go_enter Tryz.func56,Tryz.ntmps56
 go_upto_region 1 with(fail)
 refine wp_w (fun W=>RB W w.heap.size (.slice Ar nr cr) mc mt mf wt st id req (.slice Aa na ca) cnt tim nak (.slice Ao pn co')∧W.heap[w.heap.size+1]? =some (.cells #[.int .i64 ic,.int .i64 ii,.slice Ai li.length ci] 32 (0,0))∧W.heap[w.heap.size+1+1]? =some (.cells #[.int .i64 ac,.int .i64 ai,.slice An ln.length cn] 32 (0,0))∧RB W (w.heap.size+1+1+1) (.slice none 0 0) 0 0 0 0 0 0 0 (.slice none 0 0) 0 0 0 (.slice none 0 0)∧Below w.heap.size w W) ⟨?_,?_,?_,?_,by exact bel⟩ ?_
 ·show(World.alloc _ _).heap[w.heap.size]? =_
  exact hpa
 ·show(World.alloc _ _).heap[w.heap.size+1]? =_
  exact hpa
 ·show(World.alloc _ _).heap[w.heap.size+1+1]? =_
  exact hpa
 ·show(World.alloc _ _).heap[w.heap.size+1+1+1]? =_
  exact hpa
 rintro W1 ⟨hx3,h9,h10,hy3,hb3⟩
 have HX3:=hid hx3
 have H9:=hid h9
 have H10:=hid h10
 have HY3:=hid hy3
 have HB3:=hid hb3
 have HP3:=hid (HP.out.below hb3 hb)
 have HGW3:=hid (grown_of_below (r:=(Value.slice Ao pn co').ownBlock) hb3)
 have hsz3:=hb3.size
 obtain⟨⟨b0,b1,b2,b3,b4⟩,⟨b5,b6,b7,b8,b9,b10,b11⟩,b12⟩:=hx3.cells
 obtain⟨i0,i1,i2⟩:=cells3 h9
 obtain⟨n0,n1,n2⟩:=cells3 h10
 have k6:=hx3.free 6
 have k7:=hx3.free 7
 have k9:=hx3.free 9
 have k10:=hx3.free 10
 have k11:=hx3.free 11
 have k12:=hx3.free 12
 have l9:=lt_blk h9
 have l10:=lt_blk h10
 have lx3:=hx3.lt
 have ly3:=hy3.lt
 clear hx3 h9 h10 hy3 hb3
 go_wp2_with fail
 refine(asked_ref Ar Aa none nr cr na ca 0 0 mc mt mf wt st id req cnt tim nak 5 tick [] _ P _ base (by omega) HP3.out (by have:=HPN.out;omega) rfl (.inl ⟨At.nil _ _ _,Nat.le_refl _⟩) q0 q1 q2 q3 q4 q5 q6 q7).mono ?_
 rintro y w3 ⟨v',P',rfl,hg3,hp3,hpe⟩
 obtain⟨A4,c4,rfl,-,-⟩:=ownsRow_form hp3.1
 obtain⟨p4,hp4⟩: ∃p4,P'.length=p4:=⟨_,rfl⟩
 have HP4:=hid hp4
 have hx3:=RB.apart (HX3.out) hg3 (own_ne_typ HP3.out.1 HX3.out (by decide))
 have hy3:=RB.apart (HY3.out) hg3 (own_ne_typ HP3.out.1 HY3.out (by decide))
 have HPQ:=hid hp3
 have HPE:=hid hpe
 rw[hp4] at HPQ
 rw[hp4]
 clear hp4 HX3 HY3 b0 b1 b2 b3 b4 b5 b6 b7 b8 b9 b10 b11 b12 k6 k7 k9 k10 k11 k12
 have HX3:=hid hx3
 have HY3:=hid hy3
 obtain⟨⟨b0,b1,b2,b3,b4⟩,⟨b5,b6,b7,b8,b9,b10,b11⟩,b12⟩:=hx3.cells
 have k0:=hx3.free 0
 have k1:=hx3.free 1
 have k2:=hx3.free 2
 have k3:=hx3.free 3
 have k4:=hx3.free 4
 have k5:=hx3.free 5
 have k6:=hx3.free 6
 have k7:=hx3.free 7
 have k8:=hx3.free 8
 have k9:=hx3.free 9
 have k10:=hx3.free 10
 have k11:=hx3.free 11
 have k12:=hx3.free 12
 have lz3:=hx3.lt
 have lw3:=hy3.lt
 have HGQ:=hid (HGW3.out.trans hg3)
 clear hg3 hp3 hpe hx3 hy3 HP3 HGW3
 go_upto_region 31 with(fail)
 refine wp_w (fun W=>RB W w.heap.size (.slice Ar nr cr) mc mt mf wt st (nxt id) req (.slice Aa na ca) (dec cnt) (tick+wt) nak (.slice A4 p4 c4)∧RB W (w.heap.size+1+1+1) (.slice none 0 0) 0 0 0 0 0 0 0 (.slice none 0 0) 0 0 0 (.slice none 0 0)∧RowPks W base (.slice A4 p4 c4) P'∧w.grownBy W (Value.slice Ao pn co').ownBlock) ⟨row13 HX3.out rfl _ _ _ _ _ _ _ _ _ _ _ _ _,HY3.out.apart (row:=some w.heap.size) grn (by intro e;have:=Option.some.inj e;omega),HPQ.out.other (X:=w.heap.size) grn HX3.out hb (by decide) (by decide) (Nat.le_trans hb HGQ.out.size),by have h3:=HGQ.out;exact grn⟩ ?_
 clear HX3 HY3 b0 b1 b2 b3 b4 b5 b6 b7 b8 b9 b10 b11 b12 k0 k1 k2 k3 k4 k5 k6 k7 k8 k9 k10 k11 k12 lz3 lw3
 rintro w4 ⟨hx3,hy3,hp3,hg3⟩
 have HX3:=hid hx3
 have HY3:=hid hy3
 have HP3:=hid hp3
 have HGW3:=hid hg3
 obtain⟨⟨b0,b1,b2,b3,b4⟩,⟨b5,b6,b7,b8,b9,b10,b11⟩,b12⟩:=hx3.cells
 obtain⟨⟨y0,y1,y2,y3,y4⟩,⟨y5,y6,y7,y8,y9,y10,y11⟩,y12⟩:=hy3.cells
 have g0:=hy3.free 0
 have g1:=hy3.free 1
 have g2:=hy3.free 2
 have g3:=hy3.free 3
 have g4:=hy3.free 4
 have g5:=hy3.free 5
 have g6:=hy3.free 6
 have g7:=hy3.free 7
 have g8:=hy3.free 8
 have g9:=hy3.free 9
 have g10:=hy3.free 10
 have g11:=hy3.free 11
 have g12:=hy3.free 12
 have lz3:=hx3.lt
 have lw3:=hy3.lt
 clear hx3 hy3 hp3 hg3
 go_wp2_with fail
 obtain⟨WT,hWT⟩: ∃WT:World,WT=w4:=⟨_,rfl⟩
 obtain⟨Wf,hWf⟩: ∃Wf:World,Wf=(((((((((((((WT.setCell ⟨(w.heap.size+1+1+1),0,none⟩ (.slice Ar nr cr)).setCell ⟨(w.heap.size+1+1+1),1,none⟩ (.int .i64 mc)).setCell ⟨(w.heap.size+1+1+1),2,none⟩ (.int .i64 mt)).setCell ⟨(w.heap.size+1+1+1),3,none⟩ (.int .i64 mf)).setCell ⟨(w.heap.size+1+1+1),4,none⟩ (.int .i64 wt)).setCell ⟨(w.heap.size+1+1+1),5,none⟩ (.int .i64 st)).setCell ⟨(w.heap.size+1+1+1),6,none⟩ (.int .i64 (nxt id))).setCell ⟨(w.heap.size+1+1+1),7,none⟩ (.int .i64 req)).setCell ⟨(w.heap.size+1+1+1),8,none⟩ (.slice Aa na ca)).setCell ⟨(w.heap.size+1+1+1),9,none⟩ (.int .i64 (dec cnt))).setCell ⟨(w.heap.size+1+1+1),10,none⟩ (.int .i64 (tick+wt))).setCell ⟨(w.heap.size+1+1+1),11,none⟩ (.int .i64 nak)).setCell ⟨(w.heap.size+1+1+1),12,none⟩ (.slice A4 p4 c4)):=⟨_,rfl⟩
 have hWf2:Wf=((((((((((((((w4).setCell ⟨(w.heap.size+1+1+1),0,none⟩ (.slice Ar nr cr)).setCell ⟨(w.heap.size+1+1+1),1,none⟩ (.int .i64 mc)).setCell ⟨(w.heap.size+1+1+1),2,none⟩ (.int .i64 mt)).setCell ⟨(w.heap.size+1+1+1),3,none⟩ (.int .i64 mf)).setCell ⟨(w.heap.size+1+1+1),4,none⟩ (.int .i64 wt)).setCell ⟨(w.heap.size+1+1+1),5,none⟩ (.int .i64 st)).setCell ⟨(w.heap.size+1+1+1),6,none⟩ (.int .i64 (nxt id))).setCell ⟨(w.heap.size+1+1+1),7,none⟩ (.int .i64 req)).setCell ⟨(w.heap.size+1+1+1),8,none⟩ (.slice Aa na ca)).setCell ⟨(w.heap.size+1+1+1),9,none⟩ (.int .i64 (dec cnt))).setCell ⟨(w.heap.size+1+1+1),10,none⟩ (.int .i64 (tick+wt))).setCell ⟨(w.heap.size+1+1+1),11,none⟩ (.int .i64 nak)).setCell ⟨(w.heap.size+1+1+1),12,none⟩ (.slice A4 p4 c4)):=by rw[hWf,hWT]
 rw[←hWf2]
 have hgT:w4.grownBy WT (some w.heap.size):=by rw[hWT];exact grn
 have hyT:=HY3.out.apart hgT (by intro e;have:=Option.some.inj e;omega)
 have hrow:RB Wf (w.heap.size+1+1+1) (.slice Ar nr cr) mc mt mf wt st ((nxt id)) (req) (.slice Aa na ca) ((dec cnt)) ((tick+wt)) (nak) ((.slice A4 p4 c4)):=by rw[hWf];exact row13 hyT rfl _ _ _ _ _ _ _ _ _ _ _ _ _
 have hgr:WT.grownBy Wf (some (w.heap.size+1+1+1)):=by rw[hWf];exact grn
 have hgf:w.grownBy Wf (Value.slice Ao pn co').ownBlock:=by
  have h3:=HGW3.out
  rw[hWf,hWT]
  exact grn
 have hpT:=HP3.out.other hgT HX3.out hb (by decide) (by decide) (Nat.le_trans hb HGW3.out.size)
 have hpf:=hpT.other hgr hyT (by omega) (by decide) (by decide) (Nat.le_trans hb (Nat.le_trans HGW3.out.size hgT.size))
 clear hWf hWf2 hWT b0 b1 b2 b3 b4 b5 b6 b7 b8 b9 b10 b11 b12 y0 y1 y2 y3 y4 y5 y6 y7 y8 y9 y10 y11 y12 g0 g1 g2 g3 g4 g5 g6 g7 g8 g9 g10 g11 g12
 obtain⟨⟨u0,u1,u2,u3,u4⟩,⟨u5,u6,u7,u8,u9,u10,u11⟩,u12⟩:=hrow.cells
 refine bodyPost_ret (v:=.agg #[.slice Ar nr cr,.int .i64 mc,.int .i64 mt,.int .i64 mf,.int .i64 wt,.int .i64 st,.int .i64 ((nxt id)),.int .i64 (req),.slice Aa na ca,.int .i64 ((dec cnt)),.int .i64 ((tick+wt)),.int .i64 (nak),(.slice A4 p4 c4)]) (by simp[results,Tryz.results56,go_sem,u0,u1,u2,u3,u4,u5,u6,u7,u8,u9,u10,u11,u12]) rfl ?_
 exact⟨_,P',rfl,hgf,hpf,HPE.out⟩
set_option maxRecDepth 100000 in
theorem ract_7 (Ar Aa Ai An Ad:Option Addr) (nr cr na ca ni ci nn cn nd cd:Nat) (mc mt mf wt st id req cnt tim nak ic ii ac ai tick:Int) (E:List Ent) (R:List Rl) (li ln:List UInt8) (acts:List Int) (vo:Value) (P:List Pe) (w:World) (base:Nat) (hb:base≤w.heap.size) (hP:RowPks w base vo P) (hlo:P.length≤999) (hE:OptsAt w w.heap.size Aa E) (hna:na=E.length) (hI:At w base Ai (li.map bv)) (hni:ni=li.length) (hci:ni≤ci) (hli:ni≤400000000) (hN:At w base An (ln.map bv)) (hnn:nn=ln.length) (hcn:nn≤cn) (hD:At w w.heap.size Ad (acts.map av)) (hnd:nd=acts.length) (hnd3:nd≤1000) (hk:NumOk ⟨R,mc,mt,mf,wt⟩ ⟨st,id,req,E.map Ent.o,cnt,tim,nak⟩ tick):Calls Tryz.prog 56 #[.agg #[.slice Ar nr cr,.int .i64 mc,.int .i64 mt,.int .i64 mf,.int .i64 wt,.int .i64 st,.int .i64 id,.int .i64 req,.slice Aa na ca,.int .i64 cnt,.int .i64 tim,.int .i64 nak,vo],.int .i64 7,.slice Ad nd cd,.agg #[.int .i64 ic,.int .i64 ii,.slice Ai ni ci],.agg #[.int .i64 ac,.int .i64 ai,.slice An nn cn],.int .i64 tick] w (ActRP (.slice Ar nr cr) (.slice Aa na ca) ⟨R,mc,mt,mf,wt⟩ (actO ⟨R,mc,mt,mf,wt⟩ ⟨ic,ii,li⟩ ⟨ac,ai,ln⟩ tick acts ⟨st,id,req,E.map Ent.o,cnt,tim,nak⟩ 7) vo base P w):=by
 subst hnn
 subst hni
 obtain⟨Ao,co',rfl,-,-⟩:=ownsRow_form hP.1
 have HP:=hid hP
 have HE:=hid hE
 have HNA:=hid hna
 have HI:=hid hI
 have HN:=hid hN
 have HD:=hid (And.intro hD hnd)
 have HK:=hid hk
 obtain⟨pn,hpn⟩: ∃pn,P.length=pn:=⟨_,rfl⟩
 have HPN:=hid hpn
 rw[hpn] at HP hlo
 rw[hpn]
 clear hP hE hna hI hN hD hnd hk hpn
 have q0:=HK.out.t0
 have q1:=HK.out.t1
 have q2:=HK.out.w0
 have q3:=HK.out.w1
 have q4:=HK.out.c0
 have q5:=HK.out.c1
 have q6:=HK.out.i0
 have q7:=HK.out.i1
 dsimp only at q0 q1 q2 q3 q4 q5 q6 q7
 obtain⟨L,hL⟩: ∃L,E.map Ent.o=L:=⟨_,rfl⟩
 have HL:=hid hL
 rw[hL]
 clear hL
 have HEL:=hid (encR_len L)
 obtain⟨⟨eb,ee⟩,henc⟩: ∃y,Op.encR L=y:=⟨_,rfl⟩
 have HENC:=hid henc
 rw[henc] at HEL
 show Calls _ _ _ _ (ActRP _ _ _ (⟨st,nxt id,nxt id,L,dec cnt,tick+wt,nak⟩,[⟨1,nxt id,(Op.encR L).1⟩]) _ _ _ _)
 rw[henc]
 clear henc
 go_enter Tryz.func56,Tryz.ntmps56
 go_upto_region 1 with(fail)
 refine wp_w (fun W=>RB W w.heap.size (.slice Ar nr cr) mc mt mf wt st id req (.slice Aa na ca) cnt tim nak (.slice Ao pn co')∧W.heap[w.heap.size+1]? =some (.cells #[.int .i64 ic,.int .i64 ii,.slice Ai li.length ci] 32 (0,0))∧W.heap[w.heap.size+1+1]? =some (.cells #[.int .i64 ac,.int .i64 ai,.slice An ln.length cn] 32 (0,0))∧RB W (w.heap.size+1+1+1) (.slice none 0 0) 0 0 0 0 0 0 0 (.slice none 0 0) 0 0 0 (.slice none 0 0)∧Below w.heap.size w W) ⟨?_,?_,?_,?_,by exact bel⟩ ?_
 ·show(World.alloc _ _).heap[w.heap.size]? =_
  exact hpa
 ·show(World.alloc _ _).heap[w.heap.size+1]? =_
  exact hpa
 ·show(World.alloc _ _).heap[w.heap.size+1+1]? =_
  exact hpa
 ·show(World.alloc _ _).heap[w.heap.size+1+1+1]? =_
  exact hpa
 rintro W1 ⟨hx3,h9,h10,hy3,hb3⟩
 have HX3:=hid hx3
 have H9:=hid h9
 have H10:=hid h10
 have HY3:=hid hy3
 have HB3:=hid hb3
 have HP3:=hid (HP.out.below hb3 hb)
 have HGW3:=hid (grown_of_below (r:=(Value.slice Ao pn co').ownBlock) hb3)
 have hsz3:=hb3.size
 obtain⟨⟨b0,b1,b2,b3,b4⟩,⟨b5,b6,b7,b8,b9,b10,b11⟩,b12⟩:=hx3.cells
 obtain⟨i0,i1,i2⟩:=cells3 h9
 obtain⟨n0,n1,n2⟩:=cells3 h10
 have k6:=hx3.free 6
 have k7:=hx3.free 7
 have k9:=hx3.free 9
 have k10:=hx3.free 10
 have k11:=hx3.free 11
 have k12:=hx3.free 12
 have l9:=lt_blk h9
 have l10:=lt_blk h10
 have lx3:=hx3.lt
 have ly3:=hy3.lt
 clear hx3 h9 h10 hy3 hb3
 go_wp2_with fail
 refine(Op.renc_any Aa na ca E _ w.heap.size hsz3 (HE.out.keep HB3.out) HNA.out).mono ?_
 rw[HL.out]
 unfold Op.EncP
 rw[HENC.out]
 rintro e w2 ⟨v,rfl,hb2,ho2⟩
 obtain⟨A3,c3,rfl,hc3,-⟩:=ownsRow_form ho2
 obtain⟨xs2,d2,rfl⟩:=ext_of hb2
 have HO2:=hid ho2
 clear hb2 ho2 hc3
 have HX3:=hid (HX3.out.keep (W':=ext W1 xs2 d2) (by exact bel))
 have HY3:=hid (HY3.out.keep (W':=ext W1 xs2 d2) (by exact bel))
 have HP3:=hid (HP3.out.below (C:=ext W1 xs2 d2) (by exact bel) (by omega))
 have HGW3:=hid (show w.grownBy (ext W1 xs2 d2) (Value.slice Ao pn co').ownBlock from by have:=HGW3.out;exact grn)
 go_wp2_with fail
 refine(asked_ref Ar Aa A3 nr cr na ca eb.length c3 mc mt mf wt st id req cnt tim nak 1 tick eb _ P _ base (by simp[size_ext,grow];omega) HP3.out (by have:=HPN.out;omega) rfl (.inr (own_base HO2.out (by omega))) q0 q1 q2 q3 q4 q5 q6 q7).mono ?_
 rintro y w3 ⟨v',P',rfl,hg3,hp3,hpe⟩
 obtain⟨A4,c4,rfl,-,-⟩:=ownsRow_form hp3.1
 obtain⟨p4,hp4⟩: ∃p4,P'.length=p4:=⟨_,rfl⟩
 have HP4:=hid hp4
 have hx3:=RB.apart (HX3.out) hg3 (own_ne_typ HP3.out.1 HX3.out (by decide))
 have hy3:=RB.apart (HY3.out) hg3 (own_ne_typ HP3.out.1 HY3.out (by decide))
 have HPQ:=hid hp3
 have HPE:=hid hpe
 rw[hp4] at HPQ
 rw[hp4]
 clear hp4 HX3 HY3 b0 b1 b2 b3 b4 b5 b6 b7 b8 b9 b10 b11 b12 k6 k7 k9 k10 k11 k12
 have HX3:=hid hx3
 have HY3:=hid hy3
 obtain⟨⟨b0,b1,b2,b3,b4⟩,⟨b5,b6,b7,b8,b9,b10,b11⟩,b12⟩:=hx3.cells
 have k0:=hx3.free 0
 have k1:=hx3.free 1
 have k2:=hx3.free 2
 have k3:=hx3.free 3
 have k4:=hx3.free 4
 have k5:=hx3.free 5
 have k6:=hx3.free 6
 have k7:=hx3.free 7
 have k8:=hx3.free 8
 have k9:=hx3.free 9
 have k10:=hx3.free 10
 have k11:=hx3.free 11
 have k12:=hx3.free 12
 have lz3:=hx3.lt
 have lw3:=hy3.lt
 have HGQ:=hid (HGW3.out.trans hg3)
 clear hg3 hp3 hpe hx3 hy3 HP3 HGW3
 go_upto_region 12 with(fail)
 refine wp_w (fun W=>RB W w.heap.size (.slice Ar nr cr) mc mt mf wt st (nxt id) req (.slice Aa na ca) (dec cnt) (tick+wt) nak (.slice A4 p4 c4)∧RB W (w.heap.size+1+1+1) (.slice none 0 0) 0 0 0 0 0 0 0 (.slice none 0 0) 0 0 0 (.slice none 0 0)∧RowPks W base (.slice A4 p4 c4) P'∧w.grownBy W (Value.slice Ao pn co').ownBlock) ⟨row13 HX3.out rfl _ _ _ _ _ _ _ _ _ _ _ _ _,HY3.out.apart (row:=some w.heap.size) grn (by intro e;have:=Option.some.inj e;omega),HPQ.out.other (X:=w.heap.size) grn HX3.out hb (by decide) (by decide) (Nat.le_trans hb HGQ.out.size),by have h3:=HGQ.out;exact grn⟩ ?_
 clear HX3 HY3 b0 b1 b2 b3 b4 b5 b6 b7 b8 b9 b10 b11 b12 k0 k1 k2 k3 k4 k5 k6 k7 k8 k9 k10 k11 k12 lz3 lw3
 rintro w4 ⟨hx3,hy3,hp3,hg3⟩
 have HX3:=hid hx3
 have HY3:=hid hy3
 have HP3:=hid hp3
 have HGW3:=hid hg3
 obtain⟨⟨b0,b1,b2,b3,b4⟩,⟨b5,b6,b7,b8,b9,b10,b11⟩,b12⟩:=hx3.cells
 obtain⟨⟨y0,y1,y2,y3,y4⟩,⟨y5,y6,y7,y8,y9,y10,y11⟩,y12⟩:=hy3.cells
 have g0:=hy3.free 0
 have g1:=hy3.free 1
 have g2:=hy3.free 2
 have g3:=hy3.free 3
 have g4:=hy3.free 4
 have g5:=hy3.free 5
 have g6:=hy3.free 6
 have g7:=hy3.free 7
 have g8:=hy3.free 8
 have g9:=hy3.free 9
 have g10:=hy3.free 10
 have g11:=hy3.free 11
 have g12:=hy3.free 12
 have k7:=hx3.free 7
 have lz3:=hx3.lt
 have lw3:=hy3.lt
 clear hx3 hy3 hp3 hg3
 go_wp2_with fail
 obtain⟨WT,hWT⟩: ∃WT:World,WT=(w4.setCell ⟨w.heap.size,7,none⟩ (Value.int .i64 (nxt id))):=⟨_,rfl⟩
 obtain⟨Wf,hWf⟩: ∃Wf:World,Wf=(((((((((((((WT.setCell ⟨(w.heap.size+1+1+1),0,none⟩ (.slice Ar nr cr)).setCell ⟨(w.heap.size+1+1+1),1,none⟩ (.int .i64 mc)).setCell ⟨(w.heap.size+1+1+1),2,none⟩ (.int .i64 mt)).setCell ⟨(w.heap.size+1+1+1),3,none⟩ (.int .i64 mf)).setCell ⟨(w.heap.size+1+1+1),4,none⟩ (.int .i64 wt)).setCell ⟨(w.heap.size+1+1+1),5,none⟩ (.int .i64 st)).setCell ⟨(w.heap.size+1+1+1),6,none⟩ (.int .i64 (nxt id))).setCell ⟨(w.heap.size+1+1+1),7,none⟩ (.int .i64 (nxt id))).setCell ⟨(w.heap.size+1+1+1),8,none⟩ (.slice Aa na ca)).setCell ⟨(w.heap.size+1+1+1),9,none⟩ (.int .i64 (dec cnt))).setCell ⟨(w.heap.size+1+1+1),10,none⟩ (.int .i64 (tick+wt))).setCell ⟨(w.heap.size+1+1+1),11,none⟩ (.int .i64 nak)).setCell ⟨(w.heap.size+1+1+1),12,none⟩ (.slice A4 p4 c4)):=⟨_,rfl⟩
 have hWf2:Wf=(((((((((((((((w4.setCell ⟨w.heap.size,7,none⟩ (Value.int .i64 (nxt id)))).setCell ⟨(w.heap.size+1+1+1),0,none⟩ (.slice Ar nr cr)).setCell ⟨(w.heap.size+1+1+1),1,none⟩ (.int .i64 mc)).setCell ⟨(w.heap.size+1+1+1),2,none⟩ (.int .i64 mt)).setCell ⟨(w.heap.size+1+1+1),3,none⟩ (.int .i64 mf)).setCell ⟨(w.heap.size+1+1+1),4,none⟩ (.int .i64 wt)).setCell ⟨(w.heap.size+1+1+1),5,none⟩ (.int .i64 st)).setCell ⟨(w.heap.size+1+1+1),6,none⟩ (.int .i64 (nxt id))).setCell ⟨(w.heap.size+1+1+1),7,none⟩ (.int .i64 (nxt id))).setCell ⟨(w.heap.size+1+1+1),8,none⟩ (.slice Aa na ca)).setCell ⟨(w.heap.size+1+1+1),9,none⟩ (.int .i64 (dec cnt))).setCell ⟨(w.heap.size+1+1+1),10,none⟩ (.int .i64 (tick+wt))).setCell ⟨(w.heap.size+1+1+1),11,none⟩ (.int .i64 nak)).setCell ⟨(w.heap.size+1+1+1),12,none⟩ (.slice A4 p4 c4)):=by rw[hWf,hWT]
 rw[←hWf2]
 have hgT:w4.grownBy WT (some w.heap.size):=by rw[hWT];exact grn
 have hyT:=HY3.out.apart hgT (by intro e;have:=Option.some.inj e;omega)
 have hrow:RB Wf (w.heap.size+1+1+1) (.slice Ar nr cr) mc mt mf wt st ((nxt id)) ((nxt id)) (.slice Aa na ca) ((dec cnt)) ((tick+wt)) (nak) ((.slice A4 p4 c4)):=by rw[hWf];exact row13 hyT rfl _ _ _ _ _ _ _ _ _ _ _ _ _
 have hgr:WT.grownBy Wf (some (w.heap.size+1+1+1)):=by rw[hWf];exact grn
 have hgf:w.grownBy Wf (Value.slice Ao pn co').ownBlock:=by
  have h3:=HGW3.out
  rw[hWf,hWT]
  exact grn
 have hpT:=HP3.out.other hgT HX3.out hb (by decide) (by decide) (Nat.le_trans hb HGW3.out.size)
 have hpf:=hpT.other hgr hyT (by omega) (by decide) (by decide) (Nat.le_trans hb (Nat.le_trans HGW3.out.size hgT.size))
 clear hWf hWf2 hWT b0 b1 b2 b3 b4 b5 b6 b7 b8 b9 b10 b11 b12 y0 y1 y2 y3 y4 y5 y6 y7 y8 y9 y10 y11 y12 g0 g1 g2 g3 g4 g5 g6 g7 g8 g9 g10 g11 g12
 obtain⟨⟨u0,u1,u2,u3,u4⟩,⟨u5,u6,u7,u8,u9,u10,u11⟩,u12⟩:=hrow.cells
 refine bodyPost_ret (v:=.agg #[.slice Ar nr cr,.int .i64 mc,.int .i64 mt,.int .i64 mf,.int .i64 wt,.int .i64 st,.int .i64 ((nxt id)),.int .i64 ((nxt id)),.slice Aa na ca,.int .i64 ((dec cnt)),.int .i64 ((tick+wt)),.int .i64 (nak),(.slice A4 p4 c4)]) (by simp[results,Tryz.results56,go_sem,u0,u1,u2,u3,u4,u5,u6,u7,u8,u9,u10,u11,u12]) rfl ?_
 exact⟨_,P',rfl,hgf,hpf,HPE.out⟩
end Go.Proofs.YtfkgmbknfnhjoaaGreat
namespace Go.Proofs.YtfkgmbknfnhjoaaGreat
open Lib (hid)
open Go.RowKit
set_option linter.unusedSimpArgs false
set_option linter.unusedVariables false
set_option linter.ambiguousOpen false
open Ne (Rl Opt RulesAt areB)
open Fs (av hasB)
theorem rrej_ok (ic ii j:Int) (A:Option Addr) (n c:Nat) (l:List UInt8) (w:World) (B:Nat) (hB:B≤w.heap.size) (hA:At w B A (l.map bv)) (hn:n=l.length) (hl:n≤1000000000) (hj:inB j 0 255=true) (he:Cp.encErr ic ii l.length=0):
  Calls Tryz.prog 92 #[.agg #[.int .i64 ic,.int .i64 ii,.slice A n c],.int .i64 j] w fun x w'=> ∃(A3:Option Addr) (n3 c3:Nat),x=.returned (.tuple #[.agg #[.int .i64 7,.int .i64 j,.slice A3 n3 c3],.int .i64 0])∧n3≤c3∧n3=((Cp.encB ic ii l).take 1488).length∧Below w.heap.size w w'∧w'.ownsRow w.heap.size 5 1 (.slice A3 n3 c3) n3 (((Cp.encB ic ii l).take 1488).map bv):=by
 refine(Cp.rej_ref ic ii A n c l j w B hB hA hn hl).mono ?_
 rw[rej_zero hj,he]
 rintro e w2 ⟨v,rfl,hb2,ho2⟩
 obtain⟨A3,c3,rfl,hc3,-⟩:=ownsRow_form ho2
 exact⟨A3,_,c3,rfl,hc3,rfl,hb2,ho2⟩
theorem rrej_bad (ic ii j er:Int) (A:Option Addr) (n c:Nat) (l:List UInt8) (w:World) (B:Nat) (hB:B≤w.heap.size) (hA:At w B A (l.map bv)) (hn:n=l.length) (hl:n≤1000000000) (hj:inB j 0 255=true) (he:Cp.encErr ic ii l.length=er) (h0:er≠0):
  Calls Tryz.prog 92 #[.agg #[.int .i64 ic,.int .i64 ii,.slice A n c],.int .i64 j] w fun x w'=> ∃(A3:Option Addr) (n3 c3:Nat),x=.returned (.tuple #[.agg #[.int .i64 0,.int .i64 0,.slice A3 n3 c3],.int .i64 er])∧Below w.heap.size w w':=by
 refine(Cp.rej_ref ic ii A n c l j w B hB hA hn hl).mono ?_
 rw[rej_zero hj,he]
 rintro e w2 ⟨v,rfl,hb2,ho2⟩
 obtain⟨A3,c3,rfl,hc3,-⟩:=ownsRow_form ho2
 exact⟨A3,_,c3,by unfold Cp.rK;rw[if_neg h0,if_neg h0],hb2⟩
set_option maxRecDepth 100000 in
theorem ract_12 (Ar Aa Ai An Ad:Option Addr) (nr cr na ca ni ci nn cn nd cd:Nat) (mc mt mf wt st id req cnt tim nak ic ii ac ai tick:Int) (E:List Ent) (R:List Rl) (li ln:List UInt8) (acts:List Int) (vo:Value) (P:List Pe) (w:World) (base:Nat) (hb:base≤w.heap.size) (hP:RowPks w base vo P) (hlo:P.length≤999) (hE:OptsAt w w.heap.size Aa E) (hna:na=E.length) (hI:At w base Ai (li.map bv)) (hni:ni=li.length) (hci:ni≤ci) (hli:ni≤400000000) (hN:At w base An (ln.map bv)) (hnn:nn=ln.length) (hcn:nn≤cn) (hD:At w w.heap.size Ad (acts.map av)) (hnd:nd=acts.length) (hnd3:nd≤1000) (hk:NumOk ⟨R,mc,mt,mf,wt⟩ ⟨st,id,req,E.map Ent.o,cnt,tim,nak⟩ tick):Calls Tryz.prog 56 #[.agg #[.slice Ar nr cr,.int .i64 mc,.int .i64 mt,.int .i64 mf,.int .i64 wt,.int .i64 st,.int .i64 id,.int .i64 req,.slice Aa na ca,.int .i64 cnt,.int .i64 tim,.int .i64 nak,vo],.int .i64 12,.slice Ad nd cd,.agg #[.int .i64 ic,.int .i64 ii,.slice Ai ni ci],.agg #[.int .i64 ac,.int .i64 ai,.slice An nn cn],.int .i64 tick] w (ActRP (.slice Ar nr cr) (.slice Aa na ca) ⟨R,mc,mt,mf,wt⟩ (actO ⟨R,mc,mt,mf,wt⟩ ⟨ic,ii,li⟩ ⟨ac,ai,ln⟩ tick acts ⟨st,id,req,E.map Ent.o,cnt,tim,nak⟩ 12) vo base P w):=by
 subst hnn
 subst hni
 obtain⟨Ao,co',rfl,-,-⟩:=ownsRow_form hP.1
 have HP:=hid hP
 have HE:=hid hE
 have HNA:=hid hna
 have HI:=hid hI
 have HN:=hid hN
 have HD:=hid (And.intro hD hnd)
 have HK:=hid hk
 obtain⟨pn,hpn⟩: ∃pn,P.length=pn:=⟨_,rfl⟩
 have HPN:=hid hpn
 rw[hpn] at HP hlo
 rw[hpn]
 clear hP hE hna hI hN hD hnd hk hpn
 have q6:=HK.out.i0
 have q7:=HK.out.i1
 dsimp only at q6 q7
 have HM:=hid (show li.length≤1000000000 by omega)
 show Calls _ _ _ _ (ActRP _ _ _ (⟨st,nxt id,req,E.map Ent.o,cnt,tim,nak⟩,rejO ic ii li (nxt id)) _ _ _ _)
 have e1:Int.tmod (id+1) 256=nxt id:=Int.tmod_eq_emod_of_nonneg (by omega)
 obtain⟨hj0,hj1⟩:=nxt_in id
 obtain⟨j,hj⟩: ∃j,nxt id=j:=⟨_,rfl⟩
 rw[hj] at e1 hj0 hj1
 rw[hj]
 have HJ2:=hid (show inB j 0 255=true by simp[inB];omega)
 clear hj
 obtain⟨er,her⟩: ∃er,Cp.encErr ic ii li.length=er:=⟨_,rfl⟩
 have HER:=hid her
 clear her
 by_cases h0:er=0
 ·subst h0
  have HRO:=hid (show rejO ic ii li j=[⟨7,j,(Cp.encB ic ii li).take 1488⟩] by unfold rejO;rw[if_pos HER.out])
  obtain⟨rj,hrj⟩: ∃rj,(Cp.encB ic ii li).take 1488=rj:=⟨_,rfl⟩
  rw[HRO.out,hrj]
  have HRJ:=hid hrj
  clear hrj HRO
  go_enter Tryz.func56,Tryz.ntmps56
  go_upto_region 1 with(fail)
  refine wp_w (fun W=>RB W w.heap.size (.slice Ar nr cr) mc mt mf wt st id req (.slice Aa na ca) cnt tim nak (.slice Ao pn co')∧W.heap[w.heap.size+1]? =some (.cells #[.int .i64 ic,.int .i64 ii,.slice Ai li.length ci] 32 (0,0))∧W.heap[w.heap.size+1+1]? =some (.cells #[.int .i64 ac,.int .i64 ai,.slice An ln.length cn] 32 (0,0))∧RB W (w.heap.size+1+1+1) (.slice none 0 0) 0 0 0 0 0 0 0 (.slice none 0 0) 0 0 0 (.slice none 0 0)∧Below w.heap.size w W) ⟨?_,?_,?_,?_,by exact bel⟩ ?_
  ·show(World.alloc _ _).heap[w.heap.size]? =_
   exact hpa
  ·show(World.alloc _ _).heap[w.heap.size+1]? =_
   exact hpa
  ·show(World.alloc _ _).heap[w.heap.size+1+1]? =_
   exact hpa
  ·show(World.alloc _ _).heap[w.heap.size+1+1+1]? =_
   exact hpa
  rintro W1 ⟨hx3,h9,h10,hy3,hb3⟩
  have HX3:=hid hx3
  have H9:=hid h9
  have H10:=hid h10
  have HY3:=hid hy3
  have HB3:=hid hb3
  have HP3:=hid (HP.out.below hb3 hb)
  have HGW3:=hid (grown_of_below (r:=(Value.slice Ao pn co').ownBlock) hb3)
  have hsz3:=hb3.size
  obtain⟨⟨b0,b1,b2,b3,b4⟩,⟨b5,b6,b7,b8,b9,b10,b11⟩,b12⟩:=hx3.cells
  obtain⟨i0,i1,i2⟩:=cells3 h9
  obtain⟨n0,n1,n2⟩:=cells3 h10
  have k6:=hx3.free 6
  have k7:=hx3.free 7
  have k9:=hx3.free 9
  have k10:=hx3.free 10
  have k11:=hx3.free 11
  have k12:=hx3.free 12
  have l9:=lt_blk h9
  have l10:=lt_blk h10
  have lx3:=hx3.lt
  have ly3:=hy3.lt
  clear hx3 h9 h10 hy3 hb3
  go_wp2_with fail
  refine(rrej_ok ic ii j Ai li.length ci li _ base (by simp;omega) (HI.out.keep (by have:=HB3.out.mono hb;exact bel)) rfl HM.out HJ2.out HER.out).mono ?_
  rw[HRJ.out]
  rintro e w2 ⟨A3,n3,c3,rfl,hc3,rfl,hb2,ho2⟩
  obtain⟨xs2,d2,rfl⟩:=ext_of hb2
  have HO2:=hid ho2
  have HC3:=hid hc3
  clear hb2 ho2 hc3
  go_upto_region 30 with(fail)
  obtain⟨T,hT⟩: ∃T,T=grow W1.heap.size xs2:=⟨_,rfl⟩
  rw[←hT]
  refine wp_w (fun W=>RB W w.heap.size (.slice Ar nr cr) mc mt mf wt st j req (.slice Aa na ca) cnt tim nak (.slice Ao pn co')∧RB W (w.heap.size+1+1+1) (.slice none 0 0) 0 0 0 0 0 0 0 (.slice none 0 0) 0 0 0 (.slice none 0 0)∧RowPks W base (.slice Ao pn co') P∧w.grownBy W (Value.slice Ao pn co').ownBlock∧W.heap[T]? =some (.cells #[.int .i64 7,.int .i64 j,.slice A3 rj.length c3] 32 (0,0))∧W.ownsRow base 5 1 (.slice A3 rj.length c3) rj.length (rj.map bv)) ⟨(RB.keep (HX3.out.sid j) (by exact bel)),(RB.keep (show RB (W1.setCell ⟨w.heap.size,6,none⟩ (.int .i64 j)) (w.heap.size+1+1+1) (.slice none 0 0) 0 0 0 0 0 0 0 (.slice none 0 0) 0 0 0 (.slice none 0 0) from(heap_setCell_other _ _ _ _ (by simp;omega)).trans HY3.out) (by exact bel)),(RowPks.below (HP3.out.other (grown_set W1 w.heap.size 6 (.int .i64 j)) HX3.out hb (by decide) (by decide) (Nat.le_trans hb hsz3)) (by exact bel) (by simp;omega)),by have:=HGW3.out;exact grn,by rw[hT];exact heap_alloc_at _ _ _ (by simp[size_ext]),own_below (own_base HO2.out (by simp;omega)) (by exact bel)⟩ ?_
  clear hT
  rintro W5 ⟨hx3,hy3,hp3,hg3,h15,hd5⟩
  clear HX3 HY3 HP3 HGW3 b0 b1 b2 b3 b4 b5 b6 b7 b8 b9 b10 b11 b12 k6 k7 k9 k10 k11 k12 lx3 ly3 i0 i1 i2 n0 n1 n2
  have HX3:=hid hx3
  have HY3:=hid hy3
  have HP3:=hid hp3
  have HGW3:=hid hg3
  have lx3:=hx3.lt
  have ly3:=hy3.lt
  obtain⟨⟨b0,b1,b2,b3,b4⟩,⟨b5,b6,b7,b8,b9,b10,b11⟩,b12⟩:=hx3.cells
  have k12:=hx3.free 12
  have k6:=hx3.free 6
  have k7:=hx3.free 7
  have k9:=hx3.free 9
  have k10:=hx3.free 10
  have k11:=hx3.free 11
  have HD5:=hid hd5
  obtain⟨i0,i1,i2⟩:=cells3 h15
  have l15:=lt_blk h15
  clear hx3 hy3 hp3 hg3 h15 hd5
  go_wp2_with (at_builtin;go_loud (refine wpList_appg base rfl (.tmp 137) (.tmp 139) 43 rfl 32 Tryz.underlying43 (.agg #[.int .i64 0,.int .i64 0,.slice none 0 0]) 3 40 infoCtl rfl (by decide) (by decide) (.slice Ao pn co') pn (cellsP P) rfl (by have h:=HP3.out.1;rw[HPN.out] at h;exact own_below h (by exact bel)) ((W5).heap.size+1) (some ⟨(W5).heap.size,0,none⟩) 1 1 [.int .i64 (7),.int .i64 (j),.slice (A3) (rj.length) (c3)] rfl rfl (by omega) (by exact At.newN _ _ _ _ _ (by simp) rfl) (by intro u hu;simp at hu;rcases hu with rfl|rfl|rfl<;>rfl) (by simp;omega) ?_);intro A4 c4 w3 ho3 hc3 hg3;have hx3:=RB.apart (RB.keep HX3.out (by exact bel)) hg3 (own_ne_typ HP3.out.1 HX3.out (by decide));have hy3:=RB.apart (RB.keep HY3.out (by exact bel)) hg3 (own_ne_typ HP3.out.1 HY3.out (by decide));have HP4:=hid (RowPks.pushed (co:=7) (id:=j) (HP3.out.below (C:=(W5).alloc (.cells #[.int .i64 (7),.int .i64 (j),.slice (A3) (rj.length) (c3)] 32)) (by exact bel) (by omega)) (.inr (own_below HD5.out (by exact bel))) (by rw[HPN.out];exact ho3) hg3 (by simp;omega));have HGW4:=hid (World.grownBy.trans (show w.grownBy ((W5).alloc (.cells #[.int .i64 (7),.int .i64 (j),.slice (A3) (rj.length) (c3)] 32)) (Value.slice Ao pn co').ownBlock from by have:=HGW3.out;exact grn) hg3);have HG4:=hid hg3;clear HX3 HY3 HP3 HGW3 b0 b1 b2 b3 b4 b5 b6 b7 b8 b9 b10 b11 b12 k6 k7 k9 k10 k11 k12;have HX3:=hid hx3;have HY3:=hid hy3;have HP3:=HP4;have HGW3:=HGW4;obtain⟨⟨b0,b1,b2,b3,b4⟩,⟨b5,b6,b7,b8,b9,b10,b11⟩,b12⟩:=hx3.cells;obtain⟨⟨y0,y1,y2,y3,y4⟩,⟨y5,y6,y7,y8,y9,y10,y11⟩,y12⟩:=hy3.cells;have g0:=hy3.free 0;have g1:=hy3.free 1;have g2:=hy3.free 2;have g3:=hy3.free 3;have g4:=hy3.free 4;have g5:=hy3.free 5;have g6:=hy3.free 6;have g7:=hy3.free 7;have g8:=hy3.free 8;have g9:=hy3.free 9;have g10:=hy3.free 10;have g11:=hy3.free 11;have g12:=hy3.free 12;have k6:=hx3.free 6;have k7:=hx3.free 7;have k9:=hx3.free 9;have k10:=hx3.free 10;have k11:=hx3.free 11;have k12:=hx3.free 12;have lz3:=hx3.lt;have lw3:=hy3.lt;clear ho3 hc3 hg3 hx3 hy3)
  obtain⟨WT,hWT⟩: ∃WT:World,WT=(w3.setCell ⟨w.heap.size,12,none⟩ (Value.slice A4 (pn+1) c4)):=⟨_,rfl⟩
  obtain⟨Wf,hWf⟩: ∃Wf:World,Wf=(((((((((((((WT.setCell ⟨(w.heap.size+1+1+1),0,none⟩ (.slice Ar nr cr)).setCell ⟨(w.heap.size+1+1+1),1,none⟩ (.int .i64 mc)).setCell ⟨(w.heap.size+1+1+1),2,none⟩ (.int .i64 mt)).setCell ⟨(w.heap.size+1+1+1),3,none⟩ (.int .i64 mf)).setCell ⟨(w.heap.size+1+1+1),4,none⟩ (.int .i64 wt)).setCell ⟨(w.heap.size+1+1+1),5,none⟩ (.int .i64 st)).setCell ⟨(w.heap.size+1+1+1),6,none⟩ (.int .i64 j)).setCell ⟨(w.heap.size+1+1+1),7,none⟩ (.int .i64 req)).setCell ⟨(w.heap.size+1+1+1),8,none⟩ (.slice Aa na ca)).setCell ⟨(w.heap.size+1+1+1),9,none⟩ (.int .i64 cnt)).setCell ⟨(w.heap.size+1+1+1),10,none⟩ (.int .i64 tim)).setCell ⟨(w.heap.size+1+1+1),11,none⟩ (.int .i64 nak)).setCell ⟨(w.heap.size+1+1+1),12,none⟩ (.slice A4 (pn+1) c4)):=⟨_,rfl⟩
  have hWf2:Wf=(((((((((((((((w3.setCell ⟨w.heap.size,12,none⟩ (Value.slice A4 (pn+1) c4))).setCell ⟨(w.heap.size+1+1+1),0,none⟩ (.slice Ar nr cr)).setCell ⟨(w.heap.size+1+1+1),1,none⟩ (.int .i64 mc)).setCell ⟨(w.heap.size+1+1+1),2,none⟩ (.int .i64 mt)).setCell ⟨(w.heap.size+1+1+1),3,none⟩ (.int .i64 mf)).setCell ⟨(w.heap.size+1+1+1),4,none⟩ (.int .i64 wt)).setCell ⟨(w.heap.size+1+1+1),5,none⟩ (.int .i64 st)).setCell ⟨(w.heap.size+1+1+1),6,none⟩ (.int .i64 j)).setCell ⟨(w.heap.size+1+1+1),7,none⟩ (.int .i64 req)).setCell ⟨(w.heap.size+1+1+1),8,none⟩ (.slice Aa na ca)).setCell ⟨(w.heap.size+1+1+1),9,none⟩ (.int .i64 cnt)).setCell ⟨(w.heap.size+1+1+1),10,none⟩ (.int .i64 tim)).setCell ⟨(w.heap.size+1+1+1),11,none⟩ (.int .i64 nak)).setCell ⟨(w.heap.size+1+1+1),12,none⟩ (.slice A4 (pn+1) c4)):=by rw[hWf,hWT]
  rw[←hWf2]
  have hgT:w3.grownBy WT (some w.heap.size):=by rw[hWT];exact grn
  have hyT:=HY3.out.apart hgT (by intro e;have:=Option.some.inj e;omega)
  have hrow:RB Wf (w.heap.size+1+1+1) (.slice Ar nr cr) mc mt mf wt st (j) (req) (.slice Aa na ca) (cnt) (tim) (nak) ((.slice A4 (pn+1) c4)):=by rw[hWf];exact row13 hyT rfl _ _ _ _ _ _ _ _ _ _ _ _ _
  have hgr:WT.grownBy Wf (some (w.heap.size+1+1+1)):=by rw[hWf];exact grn
  have hgf:w.grownBy Wf (Value.slice Ao pn co').ownBlock:=by
   have h3:=HGW3.out
   rw[hWf,hWT]
   exact grn
  have hpT:=HP3.out.other hgT HX3.out hb (by decide) (by decide) (Nat.le_trans hb HGW3.out.size)
  have hpf:=hpT.other hgr hyT (by omega) (by decide) (by decide) (Nat.le_trans hb (Nat.le_trans HGW3.out.size hgT.size))
  clear hWf hWf2 hWT b0 b1 b2 b3 b4 b5 b6 b7 b8 b9 b10 b11 b12 y0 y1 y2 y3 y4 y5 y6 y7 y8 y9 y10 y11 y12 g0 g1 g2 g3 g4 g5 g6 g7 g8 g9 g10 g11 g12
  obtain⟨⟨u0,u1,u2,u3,u4⟩,⟨u5,u6,u7,u8,u9,u10,u11⟩,u12⟩:=hrow.cells
  refine bodyPost_ret (v:=.agg #[.slice Ar nr cr,.int .i64 mc,.int .i64 mt,.int .i64 mf,.int .i64 wt,.int .i64 st,.int .i64 (j),.int .i64 (req),.slice Aa na ca,.int .i64 (cnt),.int .i64 (tim),.int .i64 (nak),(.slice A4 (pn+1) c4)]) (by simp[results,Tryz.results56,go_sem,u0,u1,u2,u3,u4,u5,u6,u7,u8,u9,u10,u11,u12]) rfl ?_
  exact⟨_,_,rfl,hgf,hpf,by rw[List.map_append];rfl⟩
 ·have HRO:=hid (show rejO ic ii li j=[] by unfold rejO;rw[if_neg (by rw[HER.out];exact h0)])
  rw[HRO.out]
  have h0':(er==0)=false:=by simpa using h0
  have HE0:=hid h0
  clear h0 HRO
  go_enter Tryz.func56,Tryz.ntmps56
  go_upto_region 1 with(fail)
  refine wp_w (fun W=>RB W w.heap.size (.slice Ar nr cr) mc mt mf wt st id req (.slice Aa na ca) cnt tim nak (.slice Ao pn co')∧W.heap[w.heap.size+1]? =some (.cells #[.int .i64 ic,.int .i64 ii,.slice Ai li.length ci] 32 (0,0))∧W.heap[w.heap.size+1+1]? =some (.cells #[.int .i64 ac,.int .i64 ai,.slice An ln.length cn] 32 (0,0))∧RB W (w.heap.size+1+1+1) (.slice none 0 0) 0 0 0 0 0 0 0 (.slice none 0 0) 0 0 0 (.slice none 0 0)∧Below w.heap.size w W) ⟨?_,?_,?_,?_,by exact bel⟩ ?_
  ·show(World.alloc _ _).heap[w.heap.size]? =_
   exact hpa
  ·show(World.alloc _ _).heap[w.heap.size+1]? =_
   exact hpa
  ·show(World.alloc _ _).heap[w.heap.size+1+1]? =_
   exact hpa
  ·show(World.alloc _ _).heap[w.heap.size+1+1+1]? =_
   exact hpa
  rintro W1 ⟨hx3,h9,h10,hy3,hb3⟩
  have HX3:=hid hx3
  have H9:=hid h9
  have H10:=hid h10
  have HY3:=hid hy3
  have HB3:=hid hb3
  have HP3:=hid (HP.out.below hb3 hb)
  have HGW3:=hid (grown_of_below (r:=(Value.slice Ao pn co').ownBlock) hb3)
  have hsz3:=hb3.size
  obtain⟨⟨b0,b1,b2,b3,b4⟩,⟨b5,b6,b7,b8,b9,b10,b11⟩,b12⟩:=hx3.cells
  obtain⟨i0,i1,i2⟩:=cells3 h9
  obtain⟨n0,n1,n2⟩:=cells3 h10
  have k6:=hx3.free 6
  have k7:=hx3.free 7
  have k9:=hx3.free 9
  have k10:=hx3.free 10
  have k11:=hx3.free 11
  have k12:=hx3.free 12
  have l9:=lt_blk h9
  have l10:=lt_blk h10
  have lx3:=hx3.lt
  have ly3:=hy3.lt
  clear hx3 h9 h10 hy3 hb3
  go_wp2_with fail
  refine(rrej_bad ic ii j er Ai li.length ci li _ base (by simp;omega) (HI.out.keep (by have:=HB3.out.mono hb;exact bel)) rfl HM.out HJ2.out HER.out HE0.out).mono ?_
  rintro e w2 ⟨A3,n3,c3,rfl,hb2⟩
  obtain⟨xs2,d2,rfl⟩:=ext_of hb2
  clear hb2
  go_upto_region 31 with(fail)
  refine wp_w (fun W=>RB W w.heap.size (.slice Ar nr cr) mc mt mf wt st j req (.slice Aa na ca) cnt tim nak (.slice Ao pn co')∧RB W (w.heap.size+1+1+1) (.slice none 0 0) 0 0 0 0 0 0 0 (.slice none 0 0) 0 0 0 (.slice none 0 0)∧RowPks W base (.slice Ao pn co') P∧w.grownBy W (Value.slice Ao pn co').ownBlock) ⟨(RB.keep (HX3.out.sid j) (by exact bel)),(RB.keep (show RB (W1.setCell ⟨w.heap.size,6,none⟩ (.int .i64 j)) (w.heap.size+1+1+1) (.slice none 0 0) 0 0 0 0 0 0 0 (.slice none 0 0) 0 0 0 (.slice none 0 0) from(heap_setCell_other _ _ _ _ (by simp;omega)).trans HY3.out) (by exact bel)),(RowPks.below (HP3.out.other (grown_set W1 w.heap.size 6 (.int .i64 j)) HX3.out hb (by decide) (by decide) (Nat.le_trans hb hsz3)) (by exact bel) (by simp;omega)),by have:=HGW3.out;exact grn⟩ ?_
  rintro W5 ⟨hx3,hy3,hp3,hg3⟩
  clear HX3 HY3 HP3 HGW3 b0 b1 b2 b3 b4 b5 b6 b7 b8 b9 b10 b11 b12 k6 k7 k9 k10 k11 k12 lx3 ly3 i0 i1 i2 n0 n1 n2
  have HX3:=hid hx3
  have HY3:=hid hy3
  have HP3:=hid hp3
  have HGW3:=hid hg3
  have lx3:=hx3.lt
  have ly3:=hy3.lt
  obtain⟨⟨b0,b1,b2,b3,b4⟩,⟨b5,b6,b7,b8,b9,b10,b11⟩,b12⟩:=hx3.cells
  have k12:=hx3.free 12
  have k6:=hx3.free 6
  have k7:=hx3.free 7
  have k9:=hx3.free 9
  have k10:=hx3.free 10
  have k11:=hx3.free 11
  clear hx3 hy3 hp3 hg3
  obtain⟨w3,hw3⟩: ∃w3,w3=W5:=⟨_,rfl⟩
  rw[←hw3] at HX3 HY3 HP3 HGW3 lx3 ly3 b0 b1 b2 b3 b4 b5 b6 b7 b8 b9 b10 b11 b12 k12 k6 k7 k9 k10 k11 ⊢
  clear hw3
  have hy3:=HY3.out
  obtain⟨⟨y0,y1,y2,y3,y4⟩,⟨y5,y6,y7,y8,y9,y10,y11⟩,y12⟩:=hy3.cells
  have g0:=hy3.free 0
  have g1:=hy3.free 1
  have g2:=hy3.free 2
  have g3:=hy3.free 3
  have g4:=hy3.free 4
  have g5:=hy3.free 5
  have g6:=hy3.free 6
  have g7:=hy3.free 7
  have g8:=hy3.free 8
  have g9:=hy3.free 9
  have g10:=hy3.free 10
  have g11:=hy3.free 11
  have g12:=hy3.free 12
  clear hy3
  go_wp2_with fail
  obtain⟨WT,hWT⟩: ∃WT:World,WT=w3:=⟨_,rfl⟩
  obtain⟨Wf,hWf⟩: ∃Wf:World,Wf=(((((((((((((WT.setCell ⟨(w.heap.size+1+1+1),0,none⟩ (.slice Ar nr cr)).setCell ⟨(w.heap.size+1+1+1),1,none⟩ (.int .i64 mc)).setCell ⟨(w.heap.size+1+1+1),2,none⟩ (.int .i64 mt)).setCell ⟨(w.heap.size+1+1+1),3,none⟩ (.int .i64 mf)).setCell ⟨(w.heap.size+1+1+1),4,none⟩ (.int .i64 wt)).setCell ⟨(w.heap.size+1+1+1),5,none⟩ (.int .i64 st)).setCell ⟨(w.heap.size+1+1+1),6,none⟩ (.int .i64 j)).setCell ⟨(w.heap.size+1+1+1),7,none⟩ (.int .i64 req)).setCell ⟨(w.heap.size+1+1+1),8,none⟩ (.slice Aa na ca)).setCell ⟨(w.heap.size+1+1+1),9,none⟩ (.int .i64 cnt)).setCell ⟨(w.heap.size+1+1+1),10,none⟩ (.int .i64 tim)).setCell ⟨(w.heap.size+1+1+1),11,none⟩ (.int .i64 nak)).setCell ⟨(w.heap.size+1+1+1),12,none⟩ (.slice Ao pn co')):=⟨_,rfl⟩
  have hWf2:Wf=((((((((((((((w3).setCell ⟨(w.heap.size+1+1+1),0,none⟩ (.slice Ar nr cr)).setCell ⟨(w.heap.size+1+1+1),1,none⟩ (.int .i64 mc)).setCell ⟨(w.heap.size+1+1+1),2,none⟩ (.int .i64 mt)).setCell ⟨(w.heap.size+1+1+1),3,none⟩ (.int .i64 mf)).setCell ⟨(w.heap.size+1+1+1),4,none⟩ (.int .i64 wt)).setCell ⟨(w.heap.size+1+1+1),5,none⟩ (.int .i64 st)).setCell ⟨(w.heap.size+1+1+1),6,none⟩ (.int .i64 j)).setCell ⟨(w.heap.size+1+1+1),7,none⟩ (.int .i64 req)).setCell ⟨(w.heap.size+1+1+1),8,none⟩ (.slice Aa na ca)).setCell ⟨(w.heap.size+1+1+1),9,none⟩ (.int .i64 cnt)).setCell ⟨(w.heap.size+1+1+1),10,none⟩ (.int .i64 tim)).setCell ⟨(w.heap.size+1+1+1),11,none⟩ (.int .i64 nak)).setCell ⟨(w.heap.size+1+1+1),12,none⟩ (.slice Ao pn co')):=by rw[hWf,hWT]
  rw[←hWf2]
  have hgT:w3.grownBy WT (some w.heap.size):=by rw[hWT];exact grn
  have hyT:=HY3.out.apart hgT (by intro e;have:=Option.some.inj e;omega)
  have hrow:RB Wf (w.heap.size+1+1+1) (.slice Ar nr cr) mc mt mf wt st (j) (req) (.slice Aa na ca) (cnt) (tim) (nak) ((.slice Ao pn co')):=by rw[hWf];exact row13 hyT rfl _ _ _ _ _ _ _ _ _ _ _ _ _
  have hgr:WT.grownBy Wf (some (w.heap.size+1+1+1)):=by rw[hWf];exact grn
  have hgf:w.grownBy Wf (Value.slice Ao pn co').ownBlock:=by
   have h3:=HGW3.out
   rw[hWf,hWT]
   exact grn
  have hpT:=HP3.out.other hgT HX3.out hb (by decide) (by decide) (Nat.le_trans hb HGW3.out.size)
  have hpf:=hpT.other hgr hyT (by omega) (by decide) (by decide) (Nat.le_trans hb (Nat.le_trans HGW3.out.size hgT.size))
  clear hWf hWf2 hWT b0 b1 b2 b3 b4 b5 b6 b7 b8 b9 b10 b11 b12 y0 y1 y2 y3 y4 y5 y6 y7 y8 y9 y10 y11 y12 g0 g1 g2 g3 g4 g5 g6 g7 g8 g9 g10 g11 g12
  obtain⟨⟨u0,u1,u2,u3,u4⟩,⟨u5,u6,u7,u8,u9,u10,u11⟩,u12⟩:=hrow.cells
  refine bodyPost_ret (v:=.agg #[.slice Ar nr cr,.int .i64 mc,.int .i64 mt,.int .i64 mf,.int .i64 wt,.int .i64 st,.int .i64 (j),.int .i64 (req),.slice Aa na ca,.int .i64 (cnt),.int .i64 (tim),.int .i64 (nak),(.slice Ao pn co')]) (by simp[results,Tryz.results56,go_sem,u0,u1,u2,u3,u4,u5,u6,u7,u8,u9,u10,u11,u12]) rfl ?_
  exact⟨_,_,rfl,hgf,hpf,by rw[List.append_nil]⟩
set_option maxRecDepth 100000 in
theorem ract_any (x:Int) (Ar Aa Ai An Ad:Option Addr) (nr cr na ca ni ci nn cn nd cd:Nat) (mc mt mf wt st id req cnt tim nak ic ii ac ai tick:Int) (E:List Ent) (R:List Rl) (li ln:List UInt8) (acts:List Int) (vo:Value) (P:List Pe) (w:World) (base:Nat) (hb:base≤w.heap.size) (hP:RowPks w base vo P) (hlo:P.length≤999) (hE:OptsAt w w.heap.size Aa E) (hna:na=E.length) (hI:At w base Ai (li.map bv)) (hni:ni=li.length) (hci:ni≤ci) (hli:ni≤400000000) (hN:At w base An (ln.map bv)) (hnn:nn=ln.length) (hcn:nn≤cn) (hD:At w w.heap.size Ad (acts.map av)) (hnd:nd=acts.length) (hnd3:nd≤1000) (hk:NumOk ⟨R,mc,mt,mf,wt⟩ ⟨st,id,req,E.map Ent.o,cnt,tim,nak⟩ tick):Calls Tryz.prog 56 #[.agg #[.slice Ar nr cr,.int .i64 mc,.int .i64 mt,.int .i64 mf,.int .i64 wt,.int .i64 st,.int .i64 id,.int .i64 req,.slice Aa na ca,.int .i64 cnt,.int .i64 tim,.int .i64 nak,vo],.int .i64 x,.slice Ad nd cd,.agg #[.int .i64 ic,.int .i64 ii,.slice Ai ni ci],.agg #[.int .i64 ac,.int .i64 ai,.slice An nn cn],.int .i64 tick] w (ActRP (.slice Ar nr cr) (.slice Aa na ca) ⟨R,mc,mt,mf,wt⟩ (actO ⟨R,mc,mt,mf,wt⟩ ⟨ic,ii,li⟩ ⟨ac,ai,ln⟩ tick acts ⟨st,id,req,E.map Ent.o,cnt,tim,nak⟩ x) vo base P w):=by
 have hx:x=5∨x=6∨x=7∨x=8∨x=9∨x=10∨x=11∨x=12∨x=13∨(x≠5∧x≠6∧x≠7∧x≠8∧x≠9∧x≠10∧x≠11∧x≠12∧x≠13):=by omega
 rcases hx with rfl|rfl|rfl|rfl|rfl|rfl|rfl|rfl|rfl|hx
 ·exact ract_5 Ar Aa Ai An Ad nr cr na ca ni ci nn cn nd cd mc mt mf wt st id req cnt tim nak ic ii ac ai tick E R li ln acts vo P w base hb hP hlo hE hna hI hni hci hli hN hnn hcn hD hnd hnd3 hk
 ·exact ract_6 Ar Aa Ai An Ad nr cr na ca ni ci nn cn nd cd mc mt mf wt st id req cnt tim nak ic ii ac ai tick E R li ln acts vo P w base hb hP hlo hE hna hI hni hci hli hN hnn hcn hD hnd hnd3 hk
 ·exact ract_7 Ar Aa Ai An Ad nr cr na ca ni ci nn cn nd cd mc mt mf wt st id req cnt tim nak ic ii ac ai tick E R li ln acts vo P w base hb hP hlo hE hna hI hni hci hli hN hnn hcn hD hnd hnd3 hk
 ·exact ract_8 Ar Aa Ai An Ad nr cr na ca ni ci nn cn nd cd mc mt mf wt st id req cnt tim nak ic ii ac ai tick E R li ln acts vo P w base hb hP hlo hE hna hI hni hci hli hN hnn hcn hD hnd hnd3 hk
 ·exact ract_9 Ar Aa Ai An Ad nr cr na ca ni ci nn cn nd cd mc mt mf wt st id req cnt tim nak ic ii ac ai tick E R li ln acts vo P w base hb hP hlo hE hna hI hni hci hli hN hnn hcn hD hnd hnd3 hk
 ·exact ract_10 Ar Aa Ai An Ad nr cr na ca ni ci nn cn nd cd mc mt mf wt st id req cnt tim nak ic ii ac ai tick E R li ln acts vo P w base hb hP hlo hE hna hI hni hci hli hN hnn hcn hD hnd hnd3 hk
 ·exact ract_11 Ar Aa Ai An Ad nr cr na ca ni ci nn cn nd cd mc mt mf wt st id req cnt tim nak ic ii ac ai tick E R li ln acts vo P w base hb hP hlo hE hna hI hni hci hli hN hnn hcn hD hnd hnd3 hk
 ·exact ract_12 Ar Aa Ai An Ad nr cr na ca ni ci nn cn nd cd mc mt mf wt st id req cnt tim nak ic ii ac ai tick E R li ln acts vo P w base hb hP hlo hE hna hI hni hci hli hN hnn hcn hD hnd hnd3 hk
 ·exact ract_13 Ar Aa Ai An Ad nr cr na ca ni ci nn cn nd cd mc mt mf wt st id req cnt tim nak ic ii ac ai tick E R li ln acts vo P w base hb hP hlo hE hna hI hni hci hli hN hnn hcn hD hnd hnd3 hk
 ·exact ract_no x hx Ar Aa Ai An Ad nr cr na ca ni ci nn cn nd cd mc mt mf wt st id req cnt tim nak ic ii ac ai tick E R li ln acts vo P w base hb hP hlo hE hna hI hni hci hli hN hnn hcn hD hnd hnd3 hk
end Go.Proofs.YtfkgmbknfnhjoaaGreat
