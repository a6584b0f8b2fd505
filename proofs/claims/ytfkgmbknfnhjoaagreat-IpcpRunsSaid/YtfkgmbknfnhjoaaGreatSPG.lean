/- PG -/
import Derived.Test.YtfkgmbknfnhjoaaGreatSPF
set_option linter.all false
set_option linter.ambiguousOpen false
set_option maxHeartbeats 8000000
namespace Go.Proofs.YtfkgmbknfnhjoaaGreat
open Lib (hid)
open Go.RowKit
open Ne (Rl bF aD bM)
open Fs (av hasB)
set_option maxRecDepth 100000 in
theorem Oh (Ar Aa Ai An Ad:Option Addr) (nr cr na ca ni ci nn cn nd cd:Nat) (mc mt mf wt st id req cnt ay au ic ii ac ai tick:Int) (E:List aH) (R:List Rl) (li ln:List UInt8) (acts:List Int) (vo:Value) (P:List Pe) (w:World) (base:Nat) (hb:base≤w.heap.size) (hP:bS w base vo P) (hlo:P.length≤999) (hE:aJ w w.heap.size Aa E) (hna:na=E.length) (hI:At w base Ai (li.map bv)) (hni:ni=li.length) (hci:ni≤ci) (iF:ni≤400000000) (hN:At w base An (ln.map bv)) (hnn:nn=ln.length) (hcn:nn≤cn) (hD:At w w.heap.size Ad (acts.map av)) (hnd:nd=acts.length) (kN:nd≤1000) (hk:gN ⟨R,mc,mt,mf,wt⟩ ⟨st,id,req,E.map aH.o,cnt,ay,au⟩ tick):Calls Tryz.prog 56 #[.agg #[.slice Ar nr cr,.int .i64 mc,.int .i64 mt,.int .i64 mf,.int .i64 wt,.int .i64 st,.int .i64 id,.int .i64 req,.slice Aa na ca,.int .i64 cnt,.int .i64 ay,.int .i64 au,vo],.int .i64 13,.slice Ad nd cd,.agg #[.int .i64 ic,.int .i64 ii,.slice Ai ni ci],.agg #[.int .i64 ac,.int .i64 ai,.slice An nn cn],.int .i64 tick] w (iR (.slice Ar nr cr) (.slice Aa na ca) ⟨R,mc,mt,mf,wt⟩ (fK ⟨R,mc,mt,mf,wt⟩ ⟨ic,ii,li⟩ ⟨ac,ai,ln⟩ tick acts ⟨st,id,req,E.map aH.o,cnt,ay,au⟩ 13) vo base P w):=by
 subst hnn
 subst hni
 obtain⟨Ao,fq,rfl,-,-⟩:=ownsRow_form hP.1
 have HP:=hid hP
 have HE:=hid hE
 have dz:=hid hna
 have HI:=hid hI
 have HN:=hid hN
 have HD:=hid (And.intro hD hnd)
 have HK:=hid hk
 obtain⟨pn,hpn⟩: ∃pn,P.length=pn:=⟨_,rfl⟩
 have qo:=hid hpn
 rw[hpn] at HP hlo
 rw[hpn]
 clear hP hE hna hI hN hD hnd hk hpn
 show Calls _ _ _ _ (iR _ _ _ (⟨st,id,req,E.map aH.o,cnt,ay,au⟩,[⟨ac,ai,ln⟩]) _ _ _ _)
 go_enter Tryz.func56,Tryz.ntmps56
 go_upto_region 1 with(fail)
 refine bY (fun W=>RB W w.heap.size (.slice Ar nr cr) mc mt mf wt st id req (.slice Aa na ca) cnt ay au (.slice Ao pn fq)∧W.heap[w.heap.size+1]? =some (.cells #[.int .i64 ic,.int .i64 ii,.slice Ai li.length ci] 32 (0,0))∧W.heap[w.heap.size+1+1]? =some (.cells #[.int .i64 ac,.int .i64 ai,.slice An ln.length cn] 32 (0,0))∧RB W (w.heap.size+1+1+1) (.slice none 0 0) 0 0 0 0 0 0 0 (.slice none 0 0) 0 0 0 (.slice none 0 0)∧Below w.heap.size w W) ⟨?_,?_,?_,?_,by exact aA⟩ ?_
 ·show(World.alloc _ _).heap[w.heap.size]? =_
  exact hpa
 ·show(World.alloc _ _).heap[w.heap.size+1]? =_
  exact hpa
 ·show(World.alloc _ _).heap[w.heap.size+1+1]? =_
  exact hpa
 ·show(World.alloc _ _).heap[w.heap.size+1+1+1]? =_
  exact hpa
 rintro W1 ⟨hx3,h9,h10,hy3,hb3⟩
 have gX:=hid hx3
 have H9:=hid h9
 have za:=hid h10
 have gY:=hid hy3
 have HB3:=hid hb3
 have fD:=hid (HP.out.below hb3 hb)
 have cK:=hid (cO (r:=(Value.slice Ao pn fq).ownBlock) hb3)
 have oK:=hb3.size
 obtain⟨⟨b0,b1,b2,b3,b4⟩,⟨b5,b6,b7,b8,b9,b10,b11⟩,b12⟩:=hx3.cells
 obtain⟨i0,i1,i2⟩:=cells3 h9
 obtain⟨n0,n1,n2⟩:=cells3 h10
 have k6:=hx3.free 6
 have k7:=hx3.free 7
 have k9:=hx3.free 9
 have k10:=hx3.free 10
 have k11:=hx3.free 11
 have k12:=hx3.free 12
 have l9:=aj h9
 have l10:=aj h10
 have CX:=hx3.lt
 have D5:=hy3.lt
 clear hx3 h9 h10 hy3 hb3
 go_wp2_with (at_builtin;go_loud (refine iy base rfl (.tmp 102) (.tmp 104) 43 rfl 32 Tryz.underlying43 (.agg #[.int .i64 0,.int .i64 0,.slice none 0 0]) 3 40 kV rfl (by decide) (by decide) (.slice Ao pn fq) pn (eX P) rfl (by have h:=fD.out.1;rw[qo.out] at h;exact own_below h (by exact aA)) ((W1).heap.size+1) (some ⟨(W1).heap.size,0,none⟩) 1 1 [.int .i64 (ac),.int .i64 (ai),.slice (An) (ln.length) (cn)] rfl rfl (by omega) (by exact At.gW _ _ _ _ _ (by simp) rfl) (by intro u hu;simp at hu;rcases hu with rfl|rfl|rfl<;>rfl) (by simp;omega) ?_);intro A4 c4 w3 ho3 hc3 hg3;have hx3:=RB.apart (RB.keep gX.out (by exact aA)) hg3 (bW fD.out.1 gX.out (by decide));have hy3:=RB.apart (RB.keep gY.out (by exact aA)) hg3 (bW fD.out.1 gY.out (by decide));have zQ:=hid (bS.pushed (co:=ac) (id:=ai) (fD.out.below (C:=(W1).alloc (.cells #[.int .i64 (ac),.int .i64 (ai),.slice (An) (ln.length) (cn)] 32)) (by exact aA) (by omega)) (.inl ⟨(HN.out.keep (HB3.out.mono hb)).keep (by have hbs:base≤W1.heap.size:=(by omega);exact aA),hcn⟩) (by rw[qo.out];exact ho3) hg3 (by simp;omega));have t_:=hid (World.grownBy.trans (show w.grownBy ((W1).alloc (.cells #[.int .i64 (ac),.int .i64 (ai),.slice (An) (ln.length) (cn)] 32)) (Value.slice Ao pn fq).ownBlock from by have:=cK.out;exact grn) hg3);have BF:=hid hg3;clear gX gY fD cK b0 b1 b2 b3 b4 b5 b6 b7 b8 b9 b10 b11 b12 k6 k7 k9 k10 k11 k12;have gX:=hid hx3;have gY:=hid hy3;have fD:=zQ;have cK:=t_;obtain⟨⟨b0,b1,b2,b3,b4⟩,⟨b5,b6,b7,b8,b9,b10,b11⟩,b12⟩:=hx3.cells;obtain⟨⟨y0,y1,y2,y3,y4⟩,⟨y5,y6,y7,y8,y9,tQ,tT⟩,tV⟩:=hy3.cells;have g0:=hy3.free 0;have g1:=hy3.free 1;have g2:=hy3.free 2;have g3:=hy3.free 3;have g4:=hy3.free 4;have g5:=hy3.free 5;have g6:=hy3.free 6;have g7:=hy3.free 7;have g8:=hy3.free 8;have g9:=hy3.free 9;have g10:=hy3.free 10;have g11:=hy3.free 11;have g12:=hy3.free 12;have k6:=hx3.free 6;have k7:=hx3.free 7;have k9:=hx3.free 9;have k10:=hx3.free 10;have k11:=hx3.free 11;have k12:=hx3.free 12;have lz3:=hx3.lt;have IK:=hy3.lt;clear ho3 hc3 hg3 hx3 hy3)
 obtain⟨WT,iE⟩: ∃WT:World,WT=(w3.setCell ⟨w.heap.size,12,none⟩ (Value.slice A4 (pn+1) c4)):=⟨_,rfl⟩
 obtain⟨Wf,hWf⟩: ∃Wf:World,Wf=(((((((((((((WT.setCell ⟨(w.heap.size+1+1+1),0,none⟩ (.slice Ar nr cr)).setCell ⟨(w.heap.size+1+1+1),1,none⟩ (.int .i64 mc)).setCell ⟨(w.heap.size+1+1+1),2,none⟩ (.int .i64 mt)).setCell ⟨(w.heap.size+1+1+1),3,none⟩ (.int .i64 mf)).setCell ⟨(w.heap.size+1+1+1),4,none⟩ (.int .i64 wt)).setCell ⟨(w.heap.size+1+1+1),5,none⟩ (.int .i64 st)).setCell ⟨(w.heap.size+1+1+1),6,none⟩ (.int .i64 id)).setCell ⟨(w.heap.size+1+1+1),7,none⟩ (.int .i64 req)).setCell ⟨(w.heap.size+1+1+1),8,none⟩ (.slice Aa na ca)).setCell ⟨(w.heap.size+1+1+1),9,none⟩ (.int .i64 cnt)).setCell ⟨(w.heap.size+1+1+1),10,none⟩ (.int .i64 ay)).setCell ⟨(w.heap.size+1+1+1),11,none⟩ (.int .i64 au)).setCell ⟨(w.heap.size+1+1+1),12,none⟩ (.slice A4 (pn+1) c4)):=⟨_,rfl⟩
 have bO:Wf=(((((((((((((((w3.setCell ⟨w.heap.size,12,none⟩ (Value.slice A4 (pn+1) c4))).setCell ⟨(w.heap.size+1+1+1),0,none⟩ (.slice Ar nr cr)).setCell ⟨(w.heap.size+1+1+1),1,none⟩ (.int .i64 mc)).setCell ⟨(w.heap.size+1+1+1),2,none⟩ (.int .i64 mt)).setCell ⟨(w.heap.size+1+1+1),3,none⟩ (.int .i64 mf)).setCell ⟨(w.heap.size+1+1+1),4,none⟩ (.int .i64 wt)).setCell ⟨(w.heap.size+1+1+1),5,none⟩ (.int .i64 st)).setCell ⟨(w.heap.size+1+1+1),6,none⟩ (.int .i64 id)).setCell ⟨(w.heap.size+1+1+1),7,none⟩ (.int .i64 req)).setCell ⟨(w.heap.size+1+1+1),8,none⟩ (.slice Aa na ca)).setCell ⟨(w.heap.size+1+1+1),9,none⟩ (.int .i64 cnt)).setCell ⟨(w.heap.size+1+1+1),10,none⟩ (.int .i64 ay)).setCell ⟨(w.heap.size+1+1+1),11,none⟩ (.int .i64 au)).setCell ⟨(w.heap.size+1+1+1),12,none⟩ (.slice A4 (pn+1) c4)):=by rw[hWf,iE]
 rw[←bO]
 have jN:w3.grownBy WT (some w.heap.size):=by rw[iE];exact grn
 have lS:=gY.out.apart jN (by intro e;have:=Option.some.inj e;omega)
 have hrow:RB Wf (w.heap.size+1+1+1) (.slice Ar nr cr) mc mt mf wt st (id) (req) (.slice Aa na ca) (cnt) (ay) (au) ((.slice A4 (pn+1) c4)):=by rw[hWf];exact jy lS rfl _ _ _ _ _ _ _ _ _ _ _ _ _
 have hgr:WT.grownBy Wf (some (w.heap.size+1+1+1)):=by rw[hWf];exact grn
 have hgf:w.grownBy Wf (Value.slice Ao pn fq).ownBlock:=by
  have h3:=cK.out
  rw[hWf,iE]
  exact grn
 have uT:=fD.out.other jN gX.out hb (by decide) (by decide) (aaF hb cK.out.size)
 have hpf:=uT.other hgr lS (by omega) (by decide) (by decide) (aaF hb (aaF cK.out.size jN.size))
 clear hWf bO iE b0 b1 b2 b3 b4 b5 b6 b7 b8 b9 b10 b11 b12 y0 y1 y2 y3 y4 y5 y6 y7 y8 y9 tQ tT tV g0 g1 g2 g3 g4 g5 g6 g7 g8 g9 g10 g11 g12
 obtain⟨⟨u0,u1,u2,u3,u4⟩,⟨u5,u6,u7,u8,u9,sK,sM⟩,sN⟩:=hrow.cells
 refine bodyPost_ret (v:=.agg #[.slice Ar nr cr,.int .i64 mc,.int .i64 mt,.int .i64 mf,.int .i64 wt,.int .i64 st,.int .i64 (id),.int .i64 (req),.slice Aa na ca,.int .i64 (cnt),.int .i64 (ay),.int .i64 (au),(.slice A4 (pn+1) c4)]) (by simp[results,Tryz.results56,go_sem,u0,u1,u2,u3,u4,u5,u6,u7,u8,u9,sK,sM,sN]) rfl ?_
 exact⟨_,_,rfl,hgf,hpf,by rw[List.map_append];rfl⟩
set_option maxRecDepth 100000 in
theorem Oe (Ar Aa Ai An Ad:Option Addr) (nr cr na ca ni ci nn cn nd cd:Nat) (mc mt mf wt st id req cnt ay au ic ii ac ai tick:Int) (E:List aH) (R:List Rl) (li ln:List UInt8) (acts:List Int) (vo:Value) (P:List Pe) (w:World) (base:Nat) (hb:base≤w.heap.size) (hP:bS w base vo P) (hlo:P.length≤999) (hE:aJ w w.heap.size Aa E) (hna:na=E.length) (hI:At w base Ai (li.map bv)) (hni:ni=li.length) (hci:ni≤ci) (iF:ni≤400000000) (hN:At w base An (ln.map bv)) (hnn:nn=ln.length) (hcn:nn≤cn) (hD:At w w.heap.size Ad (acts.map av)) (hnd:nd=acts.length) (kN:nd≤1000) (hk:gN ⟨R,mc,mt,mf,wt⟩ ⟨st,id,req,E.map aH.o,cnt,ay,au⟩ tick):Calls Tryz.prog 56 #[.agg #[.slice Ar nr cr,.int .i64 mc,.int .i64 mt,.int .i64 mf,.int .i64 wt,.int .i64 st,.int .i64 id,.int .i64 req,.slice Aa na ca,.int .i64 cnt,.int .i64 ay,.int .i64 au,vo],.int .i64 11,.slice Ad nd cd,.agg #[.int .i64 ic,.int .i64 ii,.slice Ai ni ci],.agg #[.int .i64 ac,.int .i64 ai,.slice An nn cn],.int .i64 tick] w (iR (.slice Ar nr cr) (.slice Aa na ca) ⟨R,mc,mt,mf,wt⟩ (fK ⟨R,mc,mt,mf,wt⟩ ⟨ic,ii,li⟩ ⟨ac,ai,ln⟩ tick acts ⟨st,id,req,E.map aH.o,cnt,ay,au⟩ 11) vo base P w):=by
 subst hnn
 subst hni
 obtain⟨Ao,fq,rfl,-,-⟩:=ownsRow_form hP.1
 have HP:=hid hP
 have HE:=hid hE
 have dz:=hid hna
 have HI:=hid hI
 have HN:=hid hN
 have HD:=hid (And.intro hD hnd)
 have HK:=hid hk
 obtain⟨pn,hpn⟩: ∃pn,P.length=pn:=⟨_,rfl⟩
 have qo:=hid hpn
 rw[hpn] at HP hlo
 rw[hpn]
 clear hP hE hna hI hN hD hnd hk hpn
 show Calls _ _ _ _ (iR _ _ _ (⟨st,id,req,E.map aH.o,cnt,ay,au⟩,[⟨6,ii,[]⟩]) _ _ _ _)
 go_enter Tryz.func56,Tryz.ntmps56
 go_upto_region 1 with(fail)
 refine bY (fun W=>RB W w.heap.size (.slice Ar nr cr) mc mt mf wt st id req (.slice Aa na ca) cnt ay au (.slice Ao pn fq)∧W.heap[w.heap.size+1]? =some (.cells #[.int .i64 ic,.int .i64 ii,.slice Ai li.length ci] 32 (0,0))∧W.heap[w.heap.size+1+1]? =some (.cells #[.int .i64 ac,.int .i64 ai,.slice An ln.length cn] 32 (0,0))∧RB W (w.heap.size+1+1+1) (.slice none 0 0) 0 0 0 0 0 0 0 (.slice none 0 0) 0 0 0 (.slice none 0 0)∧Below w.heap.size w W) ⟨?_,?_,?_,?_,by exact aA⟩ ?_
 ·show(World.alloc _ _).heap[w.heap.size]? =_
  exact hpa
 ·show(World.alloc _ _).heap[w.heap.size+1]? =_
  exact hpa
 ·show(World.alloc _ _).heap[w.heap.size+1+1]? =_
  exact hpa
 ·show(World.alloc _ _).heap[w.heap.size+1+1+1]? =_
  exact hpa
 rintro W1 ⟨hx3,h9,h10,hy3,hb3⟩
 have gX:=hid hx3
 have H9:=hid h9
 have za:=hid h10
 have gY:=hid hy3
 have HB3:=hid hb3
 have fD:=hid (HP.out.below hb3 hb)
 have cK:=hid (cO (r:=(Value.slice Ao pn fq).ownBlock) hb3)
 have oK:=hb3.size
 obtain⟨⟨b0,b1,b2,b3,b4⟩,⟨b5,b6,b7,b8,b9,b10,b11⟩,b12⟩:=hx3.cells
 obtain⟨i0,i1,i2⟩:=cells3 h9
 obtain⟨n0,n1,n2⟩:=cells3 h10
 have k6:=hx3.free 6
 have k7:=hx3.free 7
 have k9:=hx3.free 9
 have k10:=hx3.free 10
 have k11:=hx3.free 11
 have k12:=hx3.free 12
 have l9:=aj h9
 have l10:=aj h10
 have CX:=hx3.lt
 have D5:=hy3.lt
 clear hx3 h9 h10 hy3 hb3
 go_wp2_with (at_builtin;go_loud (refine iy base rfl (.tmp 110) (.tmp 114) 43 rfl 32 Tryz.underlying43 (.agg #[.int .i64 0,.int .i64 0,.slice none 0 0]) 3 40 kV rfl (by decide) (by decide) (.slice Ao pn fq) pn (eX P) rfl (by have h:=fD.out.1;rw[qo.out] at h;exact own_below h (by exact aA)) ((W1).heap.size+1) (some ⟨(W1).heap.size,0,none⟩) 1 1 [.int .i64 (6),.int .i64 (ii),.slice (none) (([]:List UInt8).length) (0)] rfl rfl (by omega) (by exact At.gW _ _ _ _ _ (by simp) rfl) (by intro u hu;simp at hu;rcases hu with rfl|rfl|rfl<;>rfl) (by simp;omega) ?_);intro A4 c4 w3 ho3 hc3 hg3;have hx3:=RB.apart (RB.keep gX.out (by exact aA)) hg3 (bW fD.out.1 gX.out (by decide));have hy3:=RB.apart (RB.keep gY.out (by exact aA)) hg3 (bW fD.out.1 gY.out (by decide));have zQ:=hid (bS.pushed (co:=6) (id:=ii) (fD.out.below (C:=(W1).alloc (.cells #[.int .i64 (6),.int .i64 (ii),.slice (none) (([]:List UInt8).length) (0)] 32)) (by exact aA) (by omega)) (.inl ⟨At.nil _ _ _,aaE _⟩) (by rw[qo.out];exact ho3) hg3 (by simp;omega));have t_:=hid (World.grownBy.trans (show w.grownBy ((W1).alloc (.cells #[.int .i64 (6),.int .i64 (ii),.slice (none) (([]:List UInt8).length) (0)] 32)) (Value.slice Ao pn fq).ownBlock from by have:=cK.out;exact grn) hg3);have BF:=hid hg3;clear gX gY fD cK b0 b1 b2 b3 b4 b5 b6 b7 b8 b9 b10 b11 b12 k6 k7 k9 k10 k11 k12;have gX:=hid hx3;have gY:=hid hy3;have fD:=zQ;have cK:=t_;obtain⟨⟨b0,b1,b2,b3,b4⟩,⟨b5,b6,b7,b8,b9,b10,b11⟩,b12⟩:=hx3.cells;obtain⟨⟨y0,y1,y2,y3,y4⟩,⟨y5,y6,y7,y8,y9,tQ,tT⟩,tV⟩:=hy3.cells;have g0:=hy3.free 0;have g1:=hy3.free 1;have g2:=hy3.free 2;have g3:=hy3.free 3;have g4:=hy3.free 4;have g5:=hy3.free 5;have g6:=hy3.free 6;have g7:=hy3.free 7;have g8:=hy3.free 8;have g9:=hy3.free 9;have g10:=hy3.free 10;have g11:=hy3.free 11;have g12:=hy3.free 12;have k6:=hx3.free 6;have k7:=hx3.free 7;have k9:=hx3.free 9;have k10:=hx3.free 10;have k11:=hx3.free 11;have k12:=hx3.free 12;have lz3:=hx3.lt;have IK:=hy3.lt;clear ho3 hc3 hg3 hx3 hy3)
 obtain⟨WT,iE⟩: ∃WT:World,WT=(w3.setCell ⟨w.heap.size,12,none⟩ (Value.slice A4 (pn+1) c4)):=⟨_,rfl⟩
 obtain⟨Wf,hWf⟩: ∃Wf:World,Wf=(((((((((((((WT.setCell ⟨(w.heap.size+1+1+1),0,none⟩ (.slice Ar nr cr)).setCell ⟨(w.heap.size+1+1+1),1,none⟩ (.int .i64 mc)).setCell ⟨(w.heap.size+1+1+1),2,none⟩ (.int .i64 mt)).setCell ⟨(w.heap.size+1+1+1),3,none⟩ (.int .i64 mf)).setCell ⟨(w.heap.size+1+1+1),4,none⟩ (.int .i64 wt)).setCell ⟨(w.heap.size+1+1+1),5,none⟩ (.int .i64 st)).setCell ⟨(w.heap.size+1+1+1),6,none⟩ (.int .i64 id)).setCell ⟨(w.heap.size+1+1+1),7,none⟩ (.int .i64 req)).setCell ⟨(w.heap.size+1+1+1),8,none⟩ (.slice Aa na ca)).setCell ⟨(w.heap.size+1+1+1),9,none⟩ (.int .i64 cnt)).setCell ⟨(w.heap.size+1+1+1),10,none⟩ (.int .i64 ay)).setCell ⟨(w.heap.size+1+1+1),11,none⟩ (.int .i64 au)).setCell ⟨(w.heap.size+1+1+1),12,none⟩ (.slice A4 (pn+1) c4)):=⟨_,rfl⟩
 have bO:Wf=(((((((((((((((w3.setCell ⟨w.heap.size,12,none⟩ (Value.slice A4 (pn+1) c4))).setCell ⟨(w.heap.size+1+1+1),0,none⟩ (.slice Ar nr cr)).setCell ⟨(w.heap.size+1+1+1),1,none⟩ (.int .i64 mc)).setCell ⟨(w.heap.size+1+1+1),2,none⟩ (.int .i64 mt)).setCell ⟨(w.heap.size+1+1+1),3,none⟩ (.int .i64 mf)).setCell ⟨(w.heap.size+1+1+1),4,none⟩ (.int .i64 wt)).setCell ⟨(w.heap.size+1+1+1),5,none⟩ (.int .i64 st)).setCell ⟨(w.heap.size+1+1+1),6,none⟩ (.int .i64 id)).setCell ⟨(w.heap.size+1+1+1),7,none⟩ (.int .i64 req)).setCell ⟨(w.heap.size+1+1+1),8,none⟩ (.slice Aa na ca)).setCell ⟨(w.heap.size+1+1+1),9,none⟩ (.int .i64 cnt)).setCell ⟨(w.heap.size+1+1+1),10,none⟩ (.int .i64 ay)).setCell ⟨(w.heap.size+1+1+1),11,none⟩ (.int .i64 au)).setCell ⟨(w.heap.size+1+1+1),12,none⟩ (.slice A4 (pn+1) c4)):=by rw[hWf,iE]
 rw[←bO]
 have jN:w3.grownBy WT (some w.heap.size):=by rw[iE];exact grn
 have lS:=gY.out.apart jN (by intro e;have:=Option.some.inj e;omega)
 have hrow:RB Wf (w.heap.size+1+1+1) (.slice Ar nr cr) mc mt mf wt st (id) (req) (.slice Aa na ca) (cnt) (ay) (au) ((.slice A4 (pn+1) c4)):=by rw[hWf];exact jy lS rfl _ _ _ _ _ _ _ _ _ _ _ _ _
 have hgr:WT.grownBy Wf (some (w.heap.size+1+1+1)):=by rw[hWf];exact grn
 have hgf:w.grownBy Wf (Value.slice Ao pn fq).ownBlock:=by
  have h3:=cK.out
  rw[hWf,iE]
  exact grn
 have uT:=fD.out.other jN gX.out hb (by decide) (by decide) (aaF hb cK.out.size)
 have hpf:=uT.other hgr lS (by omega) (by decide) (by decide) (aaF hb (aaF cK.out.size jN.size))
 clear hWf bO iE b0 b1 b2 b3 b4 b5 b6 b7 b8 b9 b10 b11 b12 y0 y1 y2 y3 y4 y5 y6 y7 y8 y9 tQ tT tV g0 g1 g2 g3 g4 g5 g6 g7 g8 g9 g10 g11 g12
 obtain⟨⟨u0,u1,u2,u3,u4⟩,⟨u5,u6,u7,u8,u9,sK,sM⟩,sN⟩:=hrow.cells
 refine bodyPost_ret (v:=.agg #[.slice Ar nr cr,.int .i64 mc,.int .i64 mt,.int .i64 mf,.int .i64 wt,.int .i64 st,.int .i64 (id),.int .i64 (req),.slice Aa na ca,.int .i64 (cnt),.int .i64 (ay),.int .i64 (au),(.slice A4 (pn+1) c4)]) (by simp[results,Tryz.results56,go_sem,u0,u1,u2,u3,u4,u5,u6,u7,u8,u9,sK,sM,sN]) rfl ?_
 exact⟨_,_,rfl,hgf,hpf,by rw[List.map_append];rfl⟩
set_option maxRecDepth 100000 in
theorem UN (Ar Aa Ai An Ad:Option Addr) (nr cr na ca ni ci nn cn nd cd:Nat) (mc mt mf wt st id req cnt ay au ic ii ac ai tick:Int) (E:List aH) (R:List Rl) (li ln:List UInt8) (acts:List Int) (vo:Value) (P:List Pe) (w:World) (base:Nat) (hb:base≤w.heap.size) (hP:bS w base vo P) (hlo:P.length≤999) (hE:aJ w w.heap.size Aa E) (hna:na=E.length) (hI:At w base Ai (li.map bv)) (hni:ni=li.length) (hci:ni≤ci) (iF:ni≤400000000) (hN:At w base An (ln.map bv)) (hnn:nn=ln.length) (hcn:nn≤cn) (hD:At w w.heap.size Ad (acts.map av)) (hnd:nd=acts.length) (kN:nd≤1000) (hk:gN ⟨R,mc,mt,mf,wt⟩ ⟨st,id,req,E.map aH.o,cnt,ay,au⟩ tick):Calls Tryz.prog 56 #[.agg #[.slice Ar nr cr,.int .i64 mc,.int .i64 mt,.int .i64 mf,.int .i64 wt,.int .i64 st,.int .i64 id,.int .i64 req,.slice Aa na ca,.int .i64 cnt,.int .i64 ay,.int .i64 au,vo],.int .i64 9,.slice Ad nd cd,.agg #[.int .i64 ic,.int .i64 ii,.slice Ai ni ci],.agg #[.int .i64 ac,.int .i64 ai,.slice An nn cn],.int .i64 tick] w (iR (.slice Ar nr cr) (.slice Aa na ca) ⟨R,mc,mt,mf,wt⟩ (fK ⟨R,mc,mt,mf,wt⟩ ⟨ic,ii,li⟩ ⟨ac,ai,ln⟩ tick acts ⟨st,id,req,E.map aH.o,cnt,ay,au⟩ 9) vo base P w):=by
 subst hnn
 subst hni
 obtain⟨Ao,fq,rfl,-,-⟩:=ownsRow_form hP.1
 have HP:=hid hP
 have HE:=hid hE
 have dz:=hid hna
 have HI:=hid hI
 have HN:=hid hN
 have HD:=hid (And.intro hD hnd)
 have HK:=hid hk
 obtain⟨pn,hpn⟩: ∃pn,P.length=pn:=⟨_,rfl⟩
 have qo:=hid hpn
 rw[hpn] at HP hlo
 rw[hpn]
 clear hP hE hna hI hN hD hnd hk hpn
 have h0:=HK.out.k0
 have h1:=HK.out.k1
 dsimp only at h0 h1
 show Calls _ _ _ _ (iR _ _ _ (⟨st,id,req,E.map aH.o,cnt,ay,if ac=3 then(if au<1000 then au+1 else au) else au⟩,[⟨ac,ai,ln⟩]) _ _ _ _)
 obtain⟨nk,hnk⟩: ∃nk,(if ac=3 then(if au<1000 then au+1 else au) else au)=nk:=⟨_,rfl⟩
 have Gi:=hid hnk
 rw[hnk]
 clear hnk
 by_cases h3:ac=3
 focus
  have h4:(ac==3)=true:=by simpa using h3
  by_cases hk0:au<1000
 focus
  have HQ:=hid (show nk=au+1 by rw[←Gi.out,if_pos h3];simp[hk0])
 rotate_left
 focus
  have HQ:=hid (show nk=au by rw[←Gi.out,if_pos h3];simp[hk0])
 rotate_left
 focus
  have HQ:=hid (show nk=au by rw[←Gi.out,if_neg h3])
  have h4:(ac==3)=false:=by simpa using h3
 rotate_left
 all_goals
  clear h3
  go_enter Tryz.func56,Tryz.ntmps56
  go_upto_region 1 with(fail)
  refine bY (fun W=>RB W w.heap.size (.slice Ar nr cr) mc mt mf wt st id req (.slice Aa na ca) cnt ay au (.slice Ao pn fq)∧W.heap[w.heap.size+1]? =some (.cells #[.int .i64 ic,.int .i64 ii,.slice Ai li.length ci] 32 (0,0))∧W.heap[w.heap.size+1+1]? =some (.cells #[.int .i64 ac,.int .i64 ai,.slice An ln.length cn] 32 (0,0))∧RB W (w.heap.size+1+1+1) (.slice none 0 0) 0 0 0 0 0 0 0 (.slice none 0 0) 0 0 0 (.slice none 0 0)∧Below w.heap.size w W) ⟨?_,?_,?_,?_,by exact aA⟩ ?_
  ·show(World.alloc _ _).heap[w.heap.size]? =_
   exact hpa
  ·show(World.alloc _ _).heap[w.heap.size+1]? =_
   exact hpa
  ·show(World.alloc _ _).heap[w.heap.size+1+1]? =_
   exact hpa
  ·show(World.alloc _ _).heap[w.heap.size+1+1+1]? =_
   exact hpa
  rintro W1 ⟨hx3,h9,h10,hy3,hb3⟩
  have gX:=hid hx3
  have H9:=hid h9
  have za:=hid h10
  have gY:=hid hy3
  have HB3:=hid hb3
  have fD:=hid (HP.out.below hb3 hb)
  have cK:=hid (cO (r:=(Value.slice Ao pn fq).ownBlock) hb3)
  have oK:=hb3.size
  obtain⟨⟨b0,b1,b2,b3,b4⟩,⟨b5,b6,b7,b8,b9,b10,b11⟩,b12⟩:=hx3.cells
  obtain⟨i0,i1,i2⟩:=cells3 h9
  obtain⟨n0,n1,n2⟩:=cells3 h10
  have k6:=hx3.free 6
  have k7:=hx3.free 7
  have k9:=hx3.free 9
  have k10:=hx3.free 10
  have k11:=hx3.free 11
  have k12:=hx3.free 12
  have l9:=aj h9
  have l10:=aj h10
  have CX:=hx3.lt
  have D5:=hy3.lt
  clear hx3 h9 h10 hy3 hb3
  go_wp2_with (at_builtin;go_loud (refine iy base rfl (.tmp 79) (.tmp 81) 43 rfl 32 Tryz.underlying43 (.agg #[.int .i64 0,.int .i64 0,.slice none 0 0]) 3 40 kV rfl (by decide) (by decide) (.slice Ao pn fq) pn (eX P) rfl (by have h:=fD.out.1;rw[qo.out] at h;exact own_below h (by exact aA)) ((W1).heap.size+1) (some ⟨(W1).heap.size,0,none⟩) 1 1 [.int .i64 (ac),.int .i64 (ai),.slice (An) (ln.length) (cn)] rfl rfl (by omega) (by exact At.gW _ _ _ _ _ (by simp) rfl) (by intro u hu;simp at hu;rcases hu with rfl|rfl|rfl<;>rfl) (by simp;omega) ?_);intro A4 c4 w3 ho3 hc3 hg3;have hx3:=RB.apart (RB.keep gX.out (by exact aA)) hg3 (bW fD.out.1 gX.out (by decide));have hy3:=RB.apart (RB.keep gY.out (by exact aA)) hg3 (bW fD.out.1 gY.out (by decide));have zQ:=hid (bS.pushed (co:=ac) (id:=ai) (fD.out.below (C:=(W1).alloc (.cells #[.int .i64 (ac),.int .i64 (ai),.slice (An) (ln.length) (cn)] 32)) (by exact aA) (by omega)) (.inl ⟨(HN.out.keep (HB3.out.mono hb)).keep (by have hbs:base≤W1.heap.size:=(by omega);exact aA),hcn⟩) (by rw[qo.out];exact ho3) hg3 (by simp;omega));have t_:=hid (World.grownBy.trans (show w.grownBy ((W1).alloc (.cells #[.int .i64 (ac),.int .i64 (ai),.slice (An) (ln.length) (cn)] 32)) (Value.slice Ao pn fq).ownBlock from by have:=cK.out;exact grn) hg3);have BF:=hid hg3;clear gX gY fD cK b0 b1 b2 b3 b4 b5 b6 b7 b8 b9 b10 b11 b12 k6 k7 k9 k10 k11 k12;have gX:=hid hx3;have gY:=hid hy3;have fD:=zQ;have cK:=t_;obtain⟨⟨b0,b1,b2,b3,b4⟩,⟨b5,b6,b7,b8,b9,b10,b11⟩,b12⟩:=hx3.cells;obtain⟨⟨y0,y1,y2,y3,y4⟩,⟨y5,y6,y7,y8,y9,tQ,tT⟩,tV⟩:=hy3.cells;have g0:=hy3.free 0;have g1:=hy3.free 1;have g2:=hy3.free 2;have g3:=hy3.free 3;have g4:=hy3.free 4;have g5:=hy3.free 5;have g6:=hy3.free 6;have g7:=hy3.free 7;have g8:=hy3.free 8;have g9:=hy3.free 9;have g10:=hy3.free 10;have g11:=hy3.free 11;have g12:=hy3.free 12;have k6:=hx3.free 6;have k7:=hx3.free 7;have k9:=hx3.free 9;have k10:=hx3.free 10;have k11:=hx3.free 11;have k12:=hx3.free 12;have lz3:=hx3.lt;have IK:=hy3.lt;clear ho3 hc3 hg3 hx3 hy3;have BN:=hid (show w3.heap[w.heap.size+1+1]? =some (.cells #[.int .i64 ac,.int .i64 ai,.slice An ln.length cn] 32 (0,0)) from(BF.out.block (w.heap.size+1+1) (by simp;omega) (fun e=>by have:=eY HP.out.1 e.symm;omega)).trans ((Below.heap_alloc W1 _ _ l10).trans za.out));obtain⟨n0,n1,n2⟩:=cells3 BN.out;have ZF:=aj BN.out)
 ·obtain⟨WT,iE⟩: ∃WT:World,WT=((w3.setCell ⟨w.heap.size,12,none⟩ (Value.slice A4 (pn+1) c4)).setCell ⟨w.heap.size,11,none⟩ (.int .i64 (au+1))):=⟨_,rfl⟩
  obtain⟨Wf,hWf⟩: ∃Wf:World,Wf=(((((((((((((WT.setCell ⟨(w.heap.size+1+1+1),0,none⟩ (.slice Ar nr cr)).setCell ⟨(w.heap.size+1+1+1),1,none⟩ (.int .i64 mc)).setCell ⟨(w.heap.size+1+1+1),2,none⟩ (.int .i64 mt)).setCell ⟨(w.heap.size+1+1+1),3,none⟩ (.int .i64 mf)).setCell ⟨(w.heap.size+1+1+1),4,none⟩ (.int .i64 wt)).setCell ⟨(w.heap.size+1+1+1),5,none⟩ (.int .i64 st)).setCell ⟨(w.heap.size+1+1+1),6,none⟩ (.int .i64 id)).setCell ⟨(w.heap.size+1+1+1),7,none⟩ (.int .i64 req)).setCell ⟨(w.heap.size+1+1+1),8,none⟩ (.slice Aa na ca)).setCell ⟨(w.heap.size+1+1+1),9,none⟩ (.int .i64 cnt)).setCell ⟨(w.heap.size+1+1+1),10,none⟩ (.int .i64 ay)).setCell ⟨(w.heap.size+1+1+1),11,none⟩ (.int .i64 (au+1))).setCell ⟨(w.heap.size+1+1+1),12,none⟩ (.slice A4 (pn+1) c4)):=⟨_,rfl⟩
  have bO:Wf=((((((((((((((((w3.setCell ⟨w.heap.size,12,none⟩ (Value.slice A4 (pn+1) c4)).setCell ⟨w.heap.size,11,none⟩ (.int .i64 (au+1)))).setCell ⟨(w.heap.size+1+1+1),0,none⟩ (.slice Ar nr cr)).setCell ⟨(w.heap.size+1+1+1),1,none⟩ (.int .i64 mc)).setCell ⟨(w.heap.size+1+1+1),2,none⟩ (.int .i64 mt)).setCell ⟨(w.heap.size+1+1+1),3,none⟩ (.int .i64 mf)).setCell ⟨(w.heap.size+1+1+1),4,none⟩ (.int .i64 wt)).setCell ⟨(w.heap.size+1+1+1),5,none⟩ (.int .i64 st)).setCell ⟨(w.heap.size+1+1+1),6,none⟩ (.int .i64 id)).setCell ⟨(w.heap.size+1+1+1),7,none⟩ (.int .i64 req)).setCell ⟨(w.heap.size+1+1+1),8,none⟩ (.slice Aa na ca)).setCell ⟨(w.heap.size+1+1+1),9,none⟩ (.int .i64 cnt)).setCell ⟨(w.heap.size+1+1+1),10,none⟩ (.int .i64 ay)).setCell ⟨(w.heap.size+1+1+1),11,none⟩ (.int .i64 (au+1))).setCell ⟨(w.heap.size+1+1+1),12,none⟩ (.slice A4 (pn+1) c4)):=by rw[hWf,iE]
  rw[←bO]
  have jN:w3.grownBy WT (some w.heap.size):=by rw[iE];exact grn
  have lS:=gY.out.apart jN (by intro e;have:=Option.some.inj e;omega)
  have hrow:RB Wf (w.heap.size+1+1+1) (.slice Ar nr cr) mc mt mf wt st (id) (req) (.slice Aa na ca) (cnt) (ay) ((au+1)) ((.slice A4 (pn+1) c4)):=by rw[hWf];exact jy lS rfl _ _ _ _ _ _ _ _ _ _ _ _ _
  have hgr:WT.grownBy Wf (some (w.heap.size+1+1+1)):=by rw[hWf];exact grn
  have hgf:w.grownBy Wf (Value.slice Ao pn fq).ownBlock:=by
   have h3:=cK.out
   rw[hWf,iE]
   exact grn
  have uT:=fD.out.other jN gX.out hb (by decide) (by decide) (aaF hb cK.out.size)
  have hpf:=uT.other hgr lS (by omega) (by decide) (by decide) (aaF hb (aaF cK.out.size jN.size))
  clear hWf bO iE b0 b1 b2 b3 b4 b5 b6 b7 b8 b9 b10 b11 b12 y0 y1 y2 y3 y4 y5 y6 y7 y8 y9 tQ tT tV g0 g1 g2 g3 g4 g5 g6 g7 g8 g9 g10 g11 g12
  obtain⟨⟨u0,u1,u2,u3,u4⟩,⟨u5,u6,u7,u8,u9,sK,sM⟩,sN⟩:=hrow.cells
  refine bodyPost_ret (v:=.agg #[.slice Ar nr cr,.int .i64 mc,.int .i64 mt,.int .i64 mf,.int .i64 wt,.int .i64 st,.int .i64 (id),.int .i64 (req),.slice Aa na ca,.int .i64 (cnt),.int .i64 (ay),.int .i64 ((au+1)),(.slice A4 (pn+1) c4)]) (by simp[results,Tryz.results56,go_sem,u0,u1,u2,u3,u4,u5,u6,u7,u8,u9,sK,sM,sN]) rfl ?_
  exact⟨_,_,by rw[HQ.out],hgf,hpf,by rw[List.map_append];rfl⟩
 rotate_left
 rotate_left
 all_goals
  obtain⟨WT,iE⟩: ∃WT:World,WT=(w3.setCell ⟨w.heap.size,12,none⟩ (Value.slice A4 (pn+1) c4)):=⟨_,rfl⟩
  obtain⟨Wf,hWf⟩: ∃Wf:World,Wf=(((((((((((((WT.setCell ⟨(w.heap.size+1+1+1),0,none⟩ (.slice Ar nr cr)).setCell ⟨(w.heap.size+1+1+1),1,none⟩ (.int .i64 mc)).setCell ⟨(w.heap.size+1+1+1),2,none⟩ (.int .i64 mt)).setCell ⟨(w.heap.size+1+1+1),3,none⟩ (.int .i64 mf)).setCell ⟨(w.heap.size+1+1+1),4,none⟩ (.int .i64 wt)).setCell ⟨(w.heap.size+1+1+1),5,none⟩ (.int .i64 st)).setCell ⟨(w.heap.size+1+1+1),6,none⟩ (.int .i64 id)).setCell ⟨(w.heap.size+1+1+1),7,none⟩ (.int .i64 req)).setCell ⟨(w.heap.size+1+1+1),8,none⟩ (.slice Aa na ca)).setCell ⟨(w.heap.size+1+1+1),9,none⟩ (.int .i64 cnt)).setCell ⟨(w.heap.size+1+1+1),10,none⟩ (.int .i64 ay)).setCell ⟨(w.heap.size+1+1+1),11,none⟩ (.int .i64 au)).setCell ⟨(w.heap.size+1+1+1),12,none⟩ (.slice A4 (pn+1) c4)):=⟨_,rfl⟩
  have bO:Wf=(((((((((((((((w3.setCell ⟨w.heap.size,12,none⟩ (Value.slice A4 (pn+1) c4))).setCell ⟨(w.heap.size+1+1+1),0,none⟩ (.slice Ar nr cr)).setCell ⟨(w.heap.size+1+1+1),1,none⟩ (.int .i64 mc)).setCell ⟨(w.heap.size+1+1+1),2,none⟩ (.int .i64 mt)).setCell ⟨(w.heap.size+1+1+1),3,none⟩ (.int .i64 mf)).setCell ⟨(w.heap.size+1+1+1),4,none⟩ (.int .i64 wt)).setCell ⟨(w.heap.size+1+1+1),5,none⟩ (.int .i64 st)).setCell ⟨(w.heap.size+1+1+1),6,none⟩ (.int .i64 id)).setCell ⟨(w.heap.size+1+1+1),7,none⟩ (.int .i64 req)).setCell ⟨(w.heap.size+1+1+1),8,none⟩ (.slice Aa na ca)).setCell ⟨(w.heap.size+1+1+1),9,none⟩ (.int .i64 cnt)).setCell ⟨(w.heap.size+1+1+1),10,none⟩ (.int .i64 ay)).setCell ⟨(w.heap.size+1+1+1),11,none⟩ (.int .i64 au)).setCell ⟨(w.heap.size+1+1+1),12,none⟩ (.slice A4 (pn+1) c4)):=by rw[hWf,iE]
  rw[←bO]
  have jN:w3.grownBy WT (some w.heap.size):=by rw[iE];exact grn
  have lS:=gY.out.apart jN (by intro e;have:=Option.some.inj e;omega)
  have hrow:RB Wf (w.heap.size+1+1+1) (.slice Ar nr cr) mc mt mf wt st (id) (req) (.slice Aa na ca) (cnt) (ay) (au) ((.slice A4 (pn+1) c4)):=by rw[hWf];exact jy lS rfl _ _ _ _ _ _ _ _ _ _ _ _ _
  have hgr:WT.grownBy Wf (some (w.heap.size+1+1+1)):=by rw[hWf];exact grn
  have hgf:w.grownBy Wf (Value.slice Ao pn fq).ownBlock:=by
   have h3:=cK.out
   rw[hWf,iE]
   exact grn
  have uT:=fD.out.other jN gX.out hb (by decide) (by decide) (aaF hb cK.out.size)
  have hpf:=uT.other hgr lS (by omega) (by decide) (by decide) (aaF hb (aaF cK.out.size jN.size))
  clear hWf bO iE b0 b1 b2 b3 b4 b5 b6 b7 b8 b9 b10 b11 b12 y0 y1 y2 y3 y4 y5 y6 y7 y8 y9 tQ tT tV g0 g1 g2 g3 g4 g5 g6 g7 g8 g9 g10 g11 g12
  obtain⟨⟨u0,u1,u2,u3,u4⟩,⟨u5,u6,u7,u8,u9,sK,sM⟩,sN⟩:=hrow.cells
  refine bodyPost_ret (v:=.agg #[.slice Ar nr cr,.int .i64 mc,.int .i64 mt,.int .i64 mf,.int .i64 wt,.int .i64 st,.int .i64 (id),.int .i64 (req),.slice Aa na ca,.int .i64 (cnt),.int .i64 (ay),.int .i64 (au),(.slice A4 (pn+1) c4)]) (by simp[results,Tryz.results56,go_sem,u0,u1,u2,u3,u4,u5,u6,u7,u8,u9,sK,sM,sN]) rfl ?_
  exact⟨_,_,by rw[HQ.out],hgf,hpf,by rw[List.map_append];rfl⟩
set_option maxRecDepth 100000 in
theorem UJ (Ar Aa Ai An Ad:Option Addr) (nr cr na ca ni ci nn cn nd cd:Nat) (mc mt mf wt st id req cnt ay au ic ii ac ai tick:Int) (E:List aH) (R:List Rl) (li ln:List UInt8) (acts:List Int) (vo:Value) (P:List Pe) (w:World) (base:Nat) (hb:base≤w.heap.size) (hP:bS w base vo P) (hlo:P.length≤999) (hE:aJ w w.heap.size Aa E) (hna:na=E.length) (hI:At w base Ai (li.map bv)) (hni:ni=li.length) (hci:ni≤ci) (iF:ni≤400000000) (hN:At w base An (ln.map bv)) (hnn:nn=ln.length) (hcn:nn≤cn) (hD:At w w.heap.size Ad (acts.map av)) (hnd:nd=acts.length) (kN:nd≤1000) (hk:gN ⟨R,mc,mt,mf,wt⟩ ⟨st,id,req,E.map aH.o,cnt,ay,au⟩ tick):Calls Tryz.prog 56 #[.agg #[.slice Ar nr cr,.int .i64 mc,.int .i64 mt,.int .i64 mf,.int .i64 wt,.int .i64 st,.int .i64 id,.int .i64 req,.slice Aa na ca,.int .i64 cnt,.int .i64 ay,.int .i64 au,vo],.int .i64 5,.slice Ad nd cd,.agg #[.int .i64 ic,.int .i64 ii,.slice Ai ni ci],.agg #[.int .i64 ac,.int .i64 ai,.slice An nn cn],.int .i64 tick] w (iR (.slice Ar nr cr) (.slice Aa na ca) ⟨R,mc,mt,mf,wt⟩ (fK ⟨R,mc,mt,mf,wt⟩ ⟨ic,ii,li⟩ ⟨ac,ai,ln⟩ tick acts ⟨st,id,req,E.map aH.o,cnt,ay,au⟩ 5) vo base P w):=by
 subst hnn
 subst hni
 obtain⟨Ao,fq,rfl,-,-⟩:=ownsRow_form hP.1
 have HP:=hid hP
 have HE:=hid hE
 have dz:=hid hna
 have HI:=hid hI
 have HN:=hid hN
 have HD:=hid (And.intro hD hnd)
 have HK:=hid hk
 obtain⟨pn,hpn⟩: ∃pn,P.length=pn:=⟨_,rfl⟩
 have qo:=hid hpn
 rw[hpn] at HP hlo
 rw[hpn]
 clear hP hE hna hI hN hD hnd hk hpn
 show Calls _ _ _ _ (iR _ _ _ (⟨st,id,req,E.map aH.o,if hasB acts 10=true then mt else mc,ay,au⟩,[]) _ _ _ _)
 obtain⟨hh,Zo⟩: ∃hh,hasB acts 10=hh:=⟨_,rfl⟩
 have HH:=hid Zo
 rw[Zo]
 clear Zo
 cases hh
 focus
  simp only[Bool.false_eq_true,if_false]
 rotate_left
 focus
  simp only[if_true]
 rotate_left
 all_goals
  go_enter Tryz.func56,Tryz.ntmps56
  go_upto_region 1 with(fail)
  refine bY (fun W=>RB W w.heap.size (.slice Ar nr cr) mc mt mf wt st id req (.slice Aa na ca) cnt ay au (.slice Ao pn fq)∧W.heap[w.heap.size+1]? =some (.cells #[.int .i64 ic,.int .i64 ii,.slice Ai li.length ci] 32 (0,0))∧W.heap[w.heap.size+1+1]? =some (.cells #[.int .i64 ac,.int .i64 ai,.slice An ln.length cn] 32 (0,0))∧RB W (w.heap.size+1+1+1) (.slice none 0 0) 0 0 0 0 0 0 0 (.slice none 0 0) 0 0 0 (.slice none 0 0)∧Below w.heap.size w W) ⟨?_,?_,?_,?_,by exact aA⟩ ?_
  ·show(World.alloc _ _).heap[w.heap.size]? =_
   exact hpa
  ·show(World.alloc _ _).heap[w.heap.size+1]? =_
   exact hpa
  ·show(World.alloc _ _).heap[w.heap.size+1+1]? =_
   exact hpa
  ·show(World.alloc _ _).heap[w.heap.size+1+1+1]? =_
   exact hpa
  rintro w3 ⟨hx3,h9,h10,hy3,hb3⟩
  have gX:=hid hx3
  have H9:=hid h9
  have za:=hid h10
  have gY:=hid hy3
  have HB3:=hid hb3
  have fD:=hid (HP.out.below hb3 hb)
  have cK:=hid (cO (r:=(Value.slice Ao pn fq).ownBlock) hb3)
  have oK:=hb3.size
  obtain⟨⟨b0,b1,b2,b3,b4⟩,⟨b5,b6,b7,b8,b9,b10,b11⟩,b12⟩:=hx3.cells
  obtain⟨i0,i1,i2⟩:=cells3 h9
  obtain⟨n0,n1,n2⟩:=cells3 h10
  have k6:=hx3.free 6
  have k7:=hx3.free 7
  have k9:=hx3.free 9
  have k10:=hx3.free 10
  have k11:=hx3.free 11
  have k12:=hx3.free 12
  have l9:=aj h9
  have l10:=aj h10
  have CX:=hx3.lt
  have D5:=hy3.lt
  obtain⟨⟨y0,y1,y2,y3,y4⟩,⟨y5,y6,y7,y8,y9,tQ,tT⟩,tV⟩:=hy3.cells
  have g0:=hy3.free 0
  have g1:=hy3.free 1
  have g2:=hy3.free 2
  have g3:=hy3.free 3
  have g4:=hy3.free 4
  have g5:=hy3.free 5
  have g6:=hy3.free 6
  have g7:=hy3.free 7
  have g8:=hy3.free 8
  have g9:=hy3.free 9
  have g10:=hy3.free 10
  have g11:=hy3.free 11
  have g12:=hy3.free 12
  clear hx3 h9 h10 hy3 hb3
  go_wp2_with (go_at_call 90;refine(Fs.La Ad nd cd acts 10 _ w.heap.size (HD.out.1.keep (by have h:=HB3.out;exact aA)) HD.out.2 (by omega)).mono ?_;rw[HH.out];rintro y w4 ⟨rfl,rfl⟩)
 focus
  obtain⟨WT,iE⟩: ∃WT:World,WT=(w3.setCell ⟨w.heap.size,9,none⟩ (Value.int .i64 mc)):=⟨_,rfl⟩
  obtain⟨Wf,hWf⟩: ∃Wf:World,Wf=(((((((((((((WT.setCell ⟨(w.heap.size+1+1+1),0,none⟩ (.slice Ar nr cr)).setCell ⟨(w.heap.size+1+1+1),1,none⟩ (.int .i64 mc)).setCell ⟨(w.heap.size+1+1+1),2,none⟩ (.int .i64 mt)).setCell ⟨(w.heap.size+1+1+1),3,none⟩ (.int .i64 mf)).setCell ⟨(w.heap.size+1+1+1),4,none⟩ (.int .i64 wt)).setCell ⟨(w.heap.size+1+1+1),5,none⟩ (.int .i64 st)).setCell ⟨(w.heap.size+1+1+1),6,none⟩ (.int .i64 id)).setCell ⟨(w.heap.size+1+1+1),7,none⟩ (.int .i64 req)).setCell ⟨(w.heap.size+1+1+1),8,none⟩ (.slice Aa na ca)).setCell ⟨(w.heap.size+1+1+1),9,none⟩ (.int .i64 mc)).setCell ⟨(w.heap.size+1+1+1),10,none⟩ (.int .i64 ay)).setCell ⟨(w.heap.size+1+1+1),11,none⟩ (.int .i64 au)).setCell ⟨(w.heap.size+1+1+1),12,none⟩ (.slice Ao pn fq)):=⟨_,rfl⟩
  have bO:Wf=(((((((((((((((w3.setCell ⟨w.heap.size,9,none⟩ (Value.int .i64 mc))).setCell ⟨(w.heap.size+1+1+1),0,none⟩ (.slice Ar nr cr)).setCell ⟨(w.heap.size+1+1+1),1,none⟩ (.int .i64 mc)).setCell ⟨(w.heap.size+1+1+1),2,none⟩ (.int .i64 mt)).setCell ⟨(w.heap.size+1+1+1),3,none⟩ (.int .i64 mf)).setCell ⟨(w.heap.size+1+1+1),4,none⟩ (.int .i64 wt)).setCell ⟨(w.heap.size+1+1+1),5,none⟩ (.int .i64 st)).setCell ⟨(w.heap.size+1+1+1),6,none⟩ (.int .i64 id)).setCell ⟨(w.heap.size+1+1+1),7,none⟩ (.int .i64 req)).setCell ⟨(w.heap.size+1+1+1),8,none⟩ (.slice Aa na ca)).setCell ⟨(w.heap.size+1+1+1),9,none⟩ (.int .i64 mc)).setCell ⟨(w.heap.size+1+1+1),10,none⟩ (.int .i64 ay)).setCell ⟨(w.heap.size+1+1+1),11,none⟩ (.int .i64 au)).setCell ⟨(w.heap.size+1+1+1),12,none⟩ (.slice Ao pn fq)):=by rw[hWf,iE]
  rw[←bO]
  have jN:w3.grownBy WT (some w.heap.size):=by rw[iE];exact grn
  have lS:=gY.out.apart jN (by intro e;have:=Option.some.inj e;omega)
  have hrow:RB Wf (w.heap.size+1+1+1) (.slice Ar nr cr) mc mt mf wt st (id) (req) (.slice Aa na ca) (mc) (ay) (au) ((.slice Ao pn fq)):=by rw[hWf];exact jy lS rfl _ _ _ _ _ _ _ _ _ _ _ _ _
 rotate_left
 focus
  obtain⟨WT,iE⟩: ∃WT:World,WT=((w3.setCell ⟨w.heap.size,9,none⟩ (Value.int .i64 mc)).setCell ⟨w.heap.size,9,none⟩ (Value.int .i64 mt)):=⟨_,rfl⟩
  obtain⟨Wf,hWf⟩: ∃Wf:World,Wf=(((((((((((((WT.setCell ⟨(w.heap.size+1+1+1),0,none⟩ (.slice Ar nr cr)).setCell ⟨(w.heap.size+1+1+1),1,none⟩ (.int .i64 mc)).setCell ⟨(w.heap.size+1+1+1),2,none⟩ (.int .i64 mt)).setCell ⟨(w.heap.size+1+1+1),3,none⟩ (.int .i64 mf)).setCell ⟨(w.heap.size+1+1+1),4,none⟩ (.int .i64 wt)).setCell ⟨(w.heap.size+1+1+1),5,none⟩ (.int .i64 st)).setCell ⟨(w.heap.size+1+1+1),6,none⟩ (.int .i64 id)).setCell ⟨(w.heap.size+1+1+1),7,none⟩ (.int .i64 req)).setCell ⟨(w.heap.size+1+1+1),8,none⟩ (.slice Aa na ca)).setCell ⟨(w.heap.size+1+1+1),9,none⟩ (.int .i64 mt)).setCell ⟨(w.heap.size+1+1+1),10,none⟩ (.int .i64 ay)).setCell ⟨(w.heap.size+1+1+1),11,none⟩ (.int .i64 au)).setCell ⟨(w.heap.size+1+1+1),12,none⟩ (.slice Ao pn fq)):=⟨_,rfl⟩
  have bO:Wf=((((((((((((((((w3.setCell ⟨w.heap.size,9,none⟩ (Value.int .i64 mc)).setCell ⟨w.heap.size,9,none⟩ (Value.int .i64 mt))).setCell ⟨(w.heap.size+1+1+1),0,none⟩ (.slice Ar nr cr)).setCell ⟨(w.heap.size+1+1+1),1,none⟩ (.int .i64 mc)).setCell ⟨(w.heap.size+1+1+1),2,none⟩ (.int .i64 mt)).setCell ⟨(w.heap.size+1+1+1),3,none⟩ (.int .i64 mf)).setCell ⟨(w.heap.size+1+1+1),4,none⟩ (.int .i64 wt)).setCell ⟨(w.heap.size+1+1+1),5,none⟩ (.int .i64 st)).setCell ⟨(w.heap.size+1+1+1),6,none⟩ (.int .i64 id)).setCell ⟨(w.heap.size+1+1+1),7,none⟩ (.int .i64 req)).setCell ⟨(w.heap.size+1+1+1),8,none⟩ (.slice Aa na ca)).setCell ⟨(w.heap.size+1+1+1),9,none⟩ (.int .i64 mt)).setCell ⟨(w.heap.size+1+1+1),10,none⟩ (.int .i64 ay)).setCell ⟨(w.heap.size+1+1+1),11,none⟩ (.int .i64 au)).setCell ⟨(w.heap.size+1+1+1),12,none⟩ (.slice Ao pn fq)):=by rw[hWf,iE]
  rw[←bO]
  have jN:w3.grownBy WT (some w.heap.size):=by rw[iE];exact grn
  have lS:=gY.out.apart jN (by intro e;have:=Option.some.inj e;omega)
  have hrow:RB Wf (w.heap.size+1+1+1) (.slice Ar nr cr) mc mt mf wt st (id) (req) (.slice Aa na ca) (mt) (ay) (au) ((.slice Ao pn fq)):=by rw[hWf];exact jy lS rfl _ _ _ _ _ _ _ _ _ _ _ _ _
 rotate_left
 all_goals
  have hgr:WT.grownBy Wf (some (w.heap.size+1+1+1)):=by rw[hWf];exact grn
  have hgf:w.grownBy Wf (Value.slice Ao pn fq).ownBlock:=by
   have h3:=cK.out
   rw[hWf,iE]
   exact grn
  have uT:=fD.out.other jN gX.out hb (by decide) (by decide) (aaF hb cK.out.size)
  have hpf:=uT.other hgr lS (by omega) (by decide) (by decide) (aaF hb (aaF cK.out.size jN.size))
  clear hWf bO iE b0 b1 b2 b3 b4 b5 b6 b7 b8 b9 b10 b11 b12 y0 y1 y2 y3 y4 y5 y6 y7 y8 y9 tQ tT tV g0 g1 g2 g3 g4 g5 g6 g7 g8 g9 g10 g11 g12
  obtain⟨⟨u0,u1,u2,u3,u4⟩,⟨u5,u6,u7,u8,u9,sK,sM⟩,sN⟩:=hrow.cells
 ·refine bodyPost_ret (v:=.agg #[.slice Ar nr cr,.int .i64 mc,.int .i64 mt,.int .i64 mf,.int .i64 wt,.int .i64 st,.int .i64 (id),.int .i64 (req),.slice Aa na ca,.int .i64 (mc),.int .i64 (ay),.int .i64 (au),(.slice Ao pn fq)]) (by simp[results,Tryz.results56,go_sem,u0,u1,u2,u3,u4,u5,u6,u7,u8,u9,sK,sM,sN]) rfl ?_
  exact⟨_,_,rfl,hgf,hpf,by rw[List.append_nil]⟩
 ·refine bodyPost_ret (v:=.agg #[.slice Ar nr cr,.int .i64 mc,.int .i64 mt,.int .i64 mf,.int .i64 wt,.int .i64 st,.int .i64 (id),.int .i64 (req),.slice Aa na ca,.int .i64 (mt),.int .i64 (ay),.int .i64 (au),(.slice Ao pn fq)]) (by simp[results,Tryz.results56,go_sem,u0,u1,u2,u3,u4,u5,u6,u7,u8,u9,sK,sM,sN]) rfl ?_
  exact⟨_,_,rfl,hgf,hpf,by rw[List.append_nil]⟩
set_option maxRecDepth 100000 in
theorem Oi (x:Int) (hx:x≠5∧x≠6∧x≠7∧x≠8∧x≠9∧x≠10∧x≠11∧x≠12∧x≠13) (Ar Aa Ai An Ad:Option Addr) (nr cr na ca ni ci nn cn nd cd:Nat) (mc mt mf wt st id req cnt ay au ic ii ac ai tick:Int) (E:List aH) (R:List Rl) (li ln:List UInt8) (acts:List Int) (vo:Value) (P:List Pe) (w:World) (base:Nat) (hb:base≤w.heap.size) (hP:bS w base vo P) (hlo:P.length≤999) (hE:aJ w w.heap.size Aa E) (hna:na=E.length) (hI:At w base Ai (li.map bv)) (hni:ni=li.length) (hci:ni≤ci) (iF:ni≤400000000) (hN:At w base An (ln.map bv)) (hnn:nn=ln.length) (hcn:nn≤cn) (hD:At w w.heap.size Ad (acts.map av)) (hnd:nd=acts.length) (kN:nd≤1000) (hk:gN ⟨R,mc,mt,mf,wt⟩ ⟨st,id,req,E.map aH.o,cnt,ay,au⟩ tick):Calls Tryz.prog 56 #[.agg #[.slice Ar nr cr,.int .i64 mc,.int .i64 mt,.int .i64 mf,.int .i64 wt,.int .i64 st,.int .i64 id,.int .i64 req,.slice Aa na ca,.int .i64 cnt,.int .i64 ay,.int .i64 au,vo],.int .i64 x,.slice Ad nd cd,.agg #[.int .i64 ic,.int .i64 ii,.slice Ai ni ci],.agg #[.int .i64 ac,.int .i64 ai,.slice An nn cn],.int .i64 tick] w (iR (.slice Ar nr cr) (.slice Aa na ca) ⟨R,mc,mt,mf,wt⟩ (fK ⟨R,mc,mt,mf,wt⟩ ⟨ic,ii,li⟩ ⟨ac,ai,ln⟩ tick acts ⟨st,id,req,E.map aH.o,cnt,ay,au⟩ x) vo base P w):=by
 subst hnn
 subst hni
 obtain⟨Ao,fq,rfl,-,-⟩:=ownsRow_form hP.1
 have HP:=hid hP
 have HE:=hid hE
 have dz:=hid hna
 have HI:=hid hI
 have HN:=hid hN
 have HD:=hid (And.intro hD hnd)
 have HK:=hid hk
 obtain⟨pn,hpn⟩: ∃pn,P.length=pn:=⟨_,rfl⟩
 have qo:=hid hpn
 rw[hpn] at HP hlo
 rw[hpn]
 clear hP hE hna hI hN hD hnd hk hpn
 obtain⟨h5,h6,h7,h8,Zb,K_,h11,h12,bR⟩:=hx
 have HO:=hid (show fK ⟨R,mc,mt,mf,wt⟩ ⟨ic,ii,li⟩ ⟨ac,ai,ln⟩ tick acts ⟨st,id,req,E.map aH.o,cnt,ay,au⟩ x=(⟨st,id,req,E.map aH.o,cnt,ay,au⟩,[]) by simp[fK,h5,h6,h7,h8,Zb,K_,h11,h12,bR])
 rw[HO.out]
 have e5:(x==5)=false:=by simpa using h5
 have e6:(x==6)=false:=by simpa using h6
 have e7:(x==7)=false:=by simpa using h7
 have e8:(x==8)=false:=by simpa using h8
 have e9:(x==9)=false:=by simpa using Zb
 have e10:(x==10)=false:=by simpa using K_
 have e11:(x==11)=false:=by simpa using h11
 have e12:(x==12)=false:=by simpa using h12
 have e13:(x==13)=false:=by simpa using bR
 clear h5 h6 h7 h8 Zb K_ h11 h12 bR HO
 go_enter Tryz.func56,Tryz.ntmps56
 go_upto_region 1 with(fail)
 refine bY (fun W=>RB W w.heap.size (.slice Ar nr cr) mc mt mf wt st id req (.slice Aa na ca) cnt ay au (.slice Ao pn fq)∧W.heap[w.heap.size+1]? =some (.cells #[.int .i64 ic,.int .i64 ii,.slice Ai li.length ci] 32 (0,0))∧W.heap[w.heap.size+1+1]? =some (.cells #[.int .i64 ac,.int .i64 ai,.slice An ln.length cn] 32 (0,0))∧RB W (w.heap.size+1+1+1) (.slice none 0 0) 0 0 0 0 0 0 0 (.slice none 0 0) 0 0 0 (.slice none 0 0)∧Below w.heap.size w W) ⟨?_,?_,?_,?_,by exact aA⟩ ?_
 ·show(World.alloc _ _).heap[w.heap.size]? =_
  exact hpa
 ·show(World.alloc _ _).heap[w.heap.size+1]? =_
  exact hpa
 ·show(World.alloc _ _).heap[w.heap.size+1+1]? =_
  exact hpa
 ·show(World.alloc _ _).heap[w.heap.size+1+1+1]? =_
  exact hpa
 rintro w3 ⟨hx3,h9,h10,hy3,hb3⟩
 have gX:=hid hx3
 have H9:=hid h9
 have za:=hid h10
 have gY:=hid hy3
 have HB3:=hid hb3
 have fD:=hid (HP.out.below hb3 hb)
 have cK:=hid (cO (r:=(Value.slice Ao pn fq).ownBlock) hb3)
 have oK:=hb3.size
 obtain⟨⟨b0,b1,b2,b3,b4⟩,⟨b5,b6,b7,b8,b9,b10,b11⟩,b12⟩:=hx3.cells
 obtain⟨i0,i1,i2⟩:=cells3 h9
 obtain⟨n0,n1,n2⟩:=cells3 h10
 have k6:=hx3.free 6
 have k7:=hx3.free 7
 have k9:=hx3.free 9
 have k10:=hx3.free 10
 have k11:=hx3.free 11
 have k12:=hx3.free 12
 have l9:=aj h9
 have l10:=aj h10
 have CX:=hx3.lt
 have D5:=hy3.lt
 obtain⟨⟨y0,y1,y2,y3,y4⟩,⟨y5,y6,y7,y8,y9,tQ,tT⟩,tV⟩:=hy3.cells
 have g0:=hy3.free 0
 have g1:=hy3.free 1
 have g2:=hy3.free 2
 have g3:=hy3.free 3
 have g4:=hy3.free 4
 have g5:=hy3.free 5
 have g6:=hy3.free 6
 have g7:=hy3.free 7
 have g8:=hy3.free 8
 have g9:=hy3.free 9
 have g10:=hy3.free 10
 have g11:=hy3.free 11
 have g12:=hy3.free 12
 clear hx3 h9 h10 hy3 hb3
 go_wp2_with fail
 obtain⟨WT,iE⟩: ∃WT:World,WT=w3:=⟨_,rfl⟩
 obtain⟨Wf,hWf⟩: ∃Wf:World,Wf=(((((((((((((WT.setCell ⟨(w.heap.size+1+1+1),0,none⟩ (.slice Ar nr cr)).setCell ⟨(w.heap.size+1+1+1),1,none⟩ (.int .i64 mc)).setCell ⟨(w.heap.size+1+1+1),2,none⟩ (.int .i64 mt)).setCell ⟨(w.heap.size+1+1+1),3,none⟩ (.int .i64 mf)).setCell ⟨(w.heap.size+1+1+1),4,none⟩ (.int .i64 wt)).setCell ⟨(w.heap.size+1+1+1),5,none⟩ (.int .i64 st)).setCell ⟨(w.heap.size+1+1+1),6,none⟩ (.int .i64 id)).setCell ⟨(w.heap.size+1+1+1),7,none⟩ (.int .i64 req)).setCell ⟨(w.heap.size+1+1+1),8,none⟩ (.slice Aa na ca)).setCell ⟨(w.heap.size+1+1+1),9,none⟩ (.int .i64 cnt)).setCell ⟨(w.heap.size+1+1+1),10,none⟩ (.int .i64 ay)).setCell ⟨(w.heap.size+1+1+1),11,none⟩ (.int .i64 au)).setCell ⟨(w.heap.size+1+1+1),12,none⟩ (.slice Ao pn fq)):=⟨_,rfl⟩
 have bO:Wf=((((((((((((((w3).setCell ⟨(w.heap.size+1+1+1),0,none⟩ (.slice Ar nr cr)).setCell ⟨(w.heap.size+1+1+1),1,none⟩ (.int .i64 mc)).setCell ⟨(w.heap.size+1+1+1),2,none⟩ (.int .i64 mt)).setCell ⟨(w.heap.size+1+1+1),3,none⟩ (.int .i64 mf)).setCell ⟨(w.heap.size+1+1+1),4,none⟩ (.int .i64 wt)).setCell ⟨(w.heap.size+1+1+1),5,none⟩ (.int .i64 st)).setCell ⟨(w.heap.size+1+1+1),6,none⟩ (.int .i64 id)).setCell ⟨(w.heap.size+1+1+1),7,none⟩ (.int .i64 req)).setCell ⟨(w.heap.size+1+1+1),8,none⟩ (.slice Aa na ca)).setCell ⟨(w.heap.size+1+1+1),9,none⟩ (.int .i64 cnt)).setCell ⟨(w.heap.size+1+1+1),10,none⟩ (.int .i64 ay)).setCell ⟨(w.heap.size+1+1+1),11,none⟩ (.int .i64 au)).setCell ⟨(w.heap.size+1+1+1),12,none⟩ (.slice Ao pn fq)):=by rw[hWf,iE]
 rw[←bO]
 have jN:w3.grownBy WT (some w.heap.size):=by rw[iE];exact grn
 have lS:=gY.out.apart jN (by intro e;have:=Option.some.inj e;omega)
 have hrow:RB Wf (w.heap.size+1+1+1) (.slice Ar nr cr) mc mt mf wt st (id) (req) (.slice Aa na ca) (cnt) (ay) (au) ((.slice Ao pn fq)):=by rw[hWf];exact jy lS rfl _ _ _ _ _ _ _ _ _ _ _ _ _
 have hgr:WT.grownBy Wf (some (w.heap.size+1+1+1)):=by rw[hWf];exact grn
 have hgf:w.grownBy Wf (Value.slice Ao pn fq).ownBlock:=by
  have h3:=cK.out
  rw[hWf,iE]
  exact grn
 have uT:=fD.out.other jN gX.out hb (by decide) (by decide) (aaF hb cK.out.size)
 have hpf:=uT.other hgr lS (by omega) (by decide) (by decide) (aaF hb (aaF cK.out.size jN.size))
 clear hWf bO iE b0 b1 b2 b3 b4 b5 b6 b7 b8 b9 b10 b11 b12 y0 y1 y2 y3 y4 y5 y6 y7 y8 y9 tQ tT tV g0 g1 g2 g3 g4 g5 g6 g7 g8 g9 g10 g11 g12
 obtain⟨⟨u0,u1,u2,u3,u4⟩,⟨u5,u6,u7,u8,u9,sK,sM⟩,sN⟩:=hrow.cells
 refine bodyPost_ret (v:=.agg #[.slice Ar nr cr,.int .i64 mc,.int .i64 mt,.int .i64 mf,.int .i64 wt,.int .i64 st,.int .i64 (id),.int .i64 (req),.slice Aa na ca,.int .i64 (cnt),.int .i64 (ay),.int .i64 (au),(.slice Ao pn fq)]) (by simp[results,Tryz.results56,go_sem,u0,u1,u2,u3,u4,u5,u6,u7,u8,u9,sK,sM,sN]) rfl ?_
 exact⟨_,_,rfl,hgf,hpf,by rw[List.append_nil]⟩
end Go.Proofs.YtfkgmbknfnhjoaaGreat
