/- AutoMeets: its walk. -/
import Derived.Test.YthidhfkbfoejbaaGreatQ54
set_option maxHeartbeats 8000000
namespace Go.Proofs.YthidhfkbfoejbaaGreat
open Lib (hid)
open Go.RowKit
set_option linter.unusedSimpArgs false
set_option linter.unusedVariables false
set_option linter.ambiguousOpen false
open Ne (Rl Opt RulesAt areB)
open Fs (av hasB)
def frM (u:Nat→Value) (s4 s5 s6 s19 s20 s22 s23 s25:Value):Act:=⟨#[u 0,u 1,u 2,u 3,s4,s5,s6,u 7,u 8,u 9,u 10,u 11,u 12,u 13,u 14,u 15,u 16,u 17,u 18,s19,s20,u 21,s22,s23,u 24,s25,u 26,u 27,u 28,u 29,u 30,u 31,u 32,u 33,u 34,u 35,u 36,u 37,u 38,u 39,u 40,u 41,u 42,u 43,u 44,u 45,u 46,u 47,u 48,u 49,u 50,u 51,u 52,u 53,u 54,u 55,u 56,u 57,u 58,u 59,u 60,u 61,u 62,u 63,u 64,u 65,u 66,u 67,u 68,u 69,u 70,u 71,u 72,u 73,u 74,u 75,u 76,u 77,u 78,u 79,u 80,u 81,u 82,u 83,u 84,u 85,u 86,u 87,u 88,u 89,u 90,u 91,u 92,u 93,u 94,u 95,u 96,u 97,u 98,u 99,u 100,u 101,u 102,u 103,u 104,u 105,u 106,u 107,u 108,u 109,u 110,u 111,u 112,u 113,u 114,u 115,u 116,u 117,u 118,u 119,u 120,u 121,u 122,u 123,u 124,u 125,u 126,u 127,u 128,u 129,u 130,u 131,u 132,u 133,u 134,u 135,u 136,u 137,u 138,u 139,u 140,u 141,u 142,u 143,u 144,u 145,u 146,u 147,u 148,u 149,u 150,u 151,u 152,u 153,u 154,u 155,u 156,u 157,u 158,u 159,u 160,u 161,u 162,u 163,u 164,u 165,u 166,u 167,u 168,u 169,u 170,u 171,u 172,u 173,u 174,u 175,u 176,u 177,u 178,u 179,u 180,u 181,u 182,u 183,u 184,u 185,u 186,u 187,u 188,u 189,u 190,u 191,u 192,u 193,u 194,u 195,u 196,u 197,u 198,u 199,u 200],[]⟩
def InvM (w:World) (X Y T U:Nat) (cc dd:Array Value) (k1 k2:Cf) (L M:List Opt) (s4:Value) (a:Act) (W:World):Prop:= ∃(u:Nat→Value) (s20 s23 s25:Value),MeetI w X Y T U cc dd k1 k2 L M s20 s23 s25 W∧a=frM u s4 (.pointer (some ⟨X,0,none⟩)) (.pointer (some ⟨Y,0,none⟩)) (.pointer (some ⟨T,0,none⟩)) s20 (.pointer (some ⟨U,0,none⟩)) s23 s25
theorem invM_intro {w W:World} {X Y T U:Nat} {cc dd:Array Value} {k1 k2:Cf} {L M:List Opt} {s4 s20 s23 s25:Value} {a:Act} (h:MeetI w X Y T U cc dd k1 k2 L M s20 s23 s25 W)
  (ha:a=frM (fun n=>a.tmps.getD n undef) s4 (.pointer (some ⟨X,0,none⟩)) (.pointer (some ⟨Y,0,none⟩)) (.pointer (some ⟨T,0,none⟩)) s20 (.pointer (some ⟨U,0,none⟩)) s23 s25):InvM w X Y T U cc dd k1 k2 L M s4 a W:=⟨_,_,_,_,h,ha⟩
theorem rowsJ_form {code:Int} {L:List Opt} {w w':World} {x:Ending} (h:Ne.RowsJ code L w x w'): ∃A n c,x=.returned (.tuple #[.int .i64 code,.slice A n c])∧Below w.heap.size w w':=by
 obtain⟨E,A,n,c,h1,-,-,-,h2,-⟩:=h
 exact⟨A,n,c,h1,h2⟩
set_option maxRecDepth 100000 in
theorem autoMeets_walk (Ar As Aa Ab Aw:Option Addr) (nr cr nd cd na ca nb cb nu cu:Nat) (R D:List Rl) (mc mt mf wt mc2 mt2 mf2 wt2:Int) (E H:List Ent) (TB:List Bool) (w:World) (hR:RulesAt w w.heap.size Ar R) (hnr:nr=R.length) (hcr:nr≤cr) (hlr:(nr:Int)≤9223372036854775807) (hD:RulesAt w w.heap.size As D) (hnd:nd=D.length) (hcd:nd≤cd) (hld:(nd:Int)≤9223372036854775807)
  (hE:OptsAt w w.heap.size Aa E) (hna:na=E.length) (hla:(na:Int)≤9223372036854775807) (hda: ∀e∈E,(e.d.length:Int)≤9223372036854775807) (hH:OptsAt w w.heap.size Ab H) (hnb:nb=H.length) (hlb:(nb:Int)≤9223372036854775807) (hdb: ∀e∈H,(e.d.length:Int)≤9223372036854775807)
  (hU:At w w.heap.size Aw (TB.map Value.bool)) (hnu:nu=TB.length) (hlu:(nu:Int)≤9223372036854775807):
  Calls Tryz.prog 7 #[.agg #[.slice Ar nr cr,.int .i64 mc,.int .i64 mt,.int .i64 mf,.int .i64 wt],.agg #[.slice As nd cd,.int .i64 mc2,.int .i64 mt2,.int .i64 mf2,.int .i64 wt2],.slice Aa na ca,.slice Ab nb cb,.slice Aw nu cu] w fun x w'=>x=.returned (.bool true)∧Below w.heap.size w w':=by
 have HR:=hid hR
 have HD:=hid hD
 have HE:=hid hE
 have HNA:=hid hna
 have HDA:=hid hda
 have HH:=hid hH
 have HNB:=hid hnb
 have HDB:=hid hdb
 have HU:=hid hU
 have HNU:=hid hnu
 obtain⟨m,hm⟩: ∃m,min nr 20=m:=⟨_,rfl⟩
 have HM:=hid hm
 have HRM:=hid (show m=(R.take 20).length by rw[List.length_take];omega)
 have hm20:m≤20:=by omega
 obtain⟨m2,hm2⟩: ∃m,min nd 20=m:=⟨_,rfl⟩
 have HM2:=hid hm2
 have HDM:=hid (show m2=(D.take 20).length by rw[List.length_take];omega)
 have hm220:m2≤20:=by omega
 clear hR hD hE hna hda hH hnb hdb hm hm2 hnr hnd hU hnu
 go_enter Tryz.func7,Tryz.ntmps7
 go_upto_region 1 with(fail)
 refine wp_w (fun W=>W.heap[w.heap.size]? =some (.cells #[.slice Ar nr cr,.int .i64 mc,.int .i64 mt,.int .i64 mf,.int .i64 wt] 24 (0,0))∧W.heap[w.heap.size+1]? =some (.cells #[.slice As nd cd,.int .i64 mc2,.int .i64 mt2,.int .i64 mf2,.int .i64 wt2] 24 (0,0))∧Below w.heap.size w W) ⟨by exact hpa,by exact hpa,by exact bel⟩ ?_
 rintro W1 ⟨g_c,g_d,hbw⟩
 have HB_W1:=hid hbw
 have hs_W1:=hbw.size
 clear hbw
 have l_c:=lt_blk g_c
 obtain⟨c_c0,c_c1,c_c2,c_c3,c_c4⟩:=cells5 g_c
 have f_c:=frees g_c
 have H_c:=hid g_c
 clear g_c
 have l_d:=lt_blk g_d
 obtain⟨c_d0,c_d1,c_d2,c_d3,c_d4⟩:=cells5 g_d
 have f_d:=frees g_d
 have H_d:=hid g_d
 clear g_d
 have hz1:w.heap.size+1+1≤W1.heap.size:=by omega
 go_wp2_with fail
 refine(light_any Ar Aa none nr cr na ca 0 0 mc mt mf wt 0 0 0 0 0 0 0 0 E _ w.heap.size hs_W1 (HE.out.keep HB_W1.out) HNA.out hla HDA.out hcr hlr (Nat.le_refl _) (by omega)).mono ?_
 rw[HM.out]
 rintro x W2 ⟨Ac,nc3,cc3,rfl,hb,ho,hnc3⟩
 have g_c:=(hb.block _ l_c).trans H_c.out
 have g_d:=(hb.block _ l_d).trans H_d.out
 have HQ_W2:=hid hb
 have hq_W2:=hb.size
 have HB_W2:=hid (HB_W1.out.trans (HQ_W2.out.mono hs_W1))
 have hs_W2:w.heap.size≤W2.heap.size:=HB_W2.out.size
 clear l_c f_c H_c c_c0 c_c1 c_c2 c_c3 c_c4 l_d f_d H_d c_d0 c_d1 c_d2 c_d3 c_d4
 have l_c:=lt_blk g_c
 obtain⟨c_c0,c_c1,c_c2,c_c3,c_c4⟩:=cells5 g_c
 have f_c:=frees g_c
 have H_c:=hid g_c
 clear g_c
 have l_d:=lt_blk g_d
 obtain⟨c_d0,c_d1,c_d2,c_d3,c_d4⟩:=cells5 g_d
 have f_d:=frees g_d
 have H_d:=hid g_d
 clear g_d
 have HOc:=hid ho
 have HNc:=hid hnc3
 have h70c:nc3≤70:=by have:=lit_len E;omega
 have HCc:=hid (show nc3≤cc3 by obtain⟨A5,c5,hv,hc,-⟩:=ownsRow_form ho;cases hv;exact hc)
 clear hb ho hnc3
 go_upto_region 2 with(fail)
 refine wp_w (fun W=>W.heap[w.heap.size]? =some (.cells #[.slice Ar m cr,.int .i64 mc,.int .i64 mt,.int .i64 mf,.int .i64 wt] 24 (0,0))∧W.heap[w.heap.size+1]? =some (.cells #[.slice As nd cd,.int .i64 mc2,.int .i64 mt2,.int .i64 mf2,.int .i64 wt2] 24 (0,0))∧W.heap[W2.heap.size]? =some (.cells #[.int .i64 0,.int .i64 0,.int .i64 0,.slice Ac nc3 cc3,.int .i64 0,.int .i64 0,.int .i64 0] 28 (0,0))∧Below w.heap.size w W∧W.ownsRow (w.heap.size+1+1) 57 2 (.slice Ac nc3 cc3) nc3 (cellsE (litE E))) ⟨(by with_reducible refine alloc_off (alloc_off ?_);exact rows5 (cs:=#[.slice Ar nr cr,.int .i64 mc,.int .i64 mt,.int .i64 mf,.int .i64 wt]) H_c.out rfl _ _ _ _ _),(by with_reducible refine alloc_off (alloc_off ?_);(iterate 5 (with_reducible refine set_off ?_ (by omega)));exact H_d.out),(by with_reducible refine alloc_off (heap_alloc_at _ _ _ ?_);simp),(by with_reducible refine Below.alloc (Below.alloc ?_ (by simp;omega) _) (by simp;omega) _;(iterate 5 (with_reducible refine Below.setCell ?_ (by first|omega|(dsimp only;omega)) _));exact HB_W2.out),(by refine own_base (own_keep HOc.out (fun k hk=>?_)) (by omega);have hle:=own_le HOc.out hk;have hlt:=own_lt HOc.out hk;with_reducible refine(Below.heap_alloc _ _ k (by simp;omega)).trans ?_;with_reducible refine(Below.heap_alloc _ _ k (by simp;omega)).trans ?_;(iterate 5 (with_reducible refine set_off ?_ (by omega)));rfl)⟩ ?_
 clear l_c f_c H_c c_c0 c_c1 c_c2 c_c3 c_c4 l_d f_d H_d c_d0 c_d1 c_d2 c_d3 c_d4
 rintro W3 ⟨g_c,g_d,g_f,hbw,ex0⟩
 have HB_W3:=hid hbw
 have hs_W3:=hbw.size
 clear hbw
 have l_c:=lt_blk g_c
 obtain⟨c_c0,c_c1,c_c2,c_c3,c_c4⟩:=cells5 g_c
 have f_c:=frees g_c
 have H_c:=hid g_c
 clear g_c
 have l_d:=lt_blk g_d
 obtain⟨c_d0,c_d1,c_d2,c_d3,c_d4⟩:=cells5 g_d
 have f_d:=frees g_d
 have H_d:=hid g_d
 clear g_d
 have l_f:=lt_blk g_f
 obtain⟨c_f0,c_f1,c_f2,c_f3,c_f4,c_f5,c_f6⟩:=cells7 g_f
 have f_f:=frees g_f
 have H_f:=hid g_f
 clear g_f
 clear HOc
 have HOc:=hid ex0
 clear ex0
 have hz3:w.heap.size+1+1≤W3.heap.size:=by omega
 go_wp2_with fail
 refine(light_any As Ab none nd cd nb cb 0 0 mc2 mt2 mf2 wt2 0 0 0 0 0 0 0 0 H _ w.heap.size hs_W3 (HH.out.keep HB_W3.out) HNB.out hlb HDB.out hcd hld (Nat.le_refl _) (by omega)).mono ?_
 rw[HM2.out]
 rintro x W4 ⟨Ad,nd3,cd3,rfl,hb,ho,hnd3⟩
 have g_c:=(hb.block _ l_c).trans H_c.out
 have g_d:=(hb.block _ l_d).trans H_d.out
 have g_f:=(hb.block _ l_f).trans H_f.out
 have HQ_W4:=hid hb
 have hq_W4:=hb.size
 have HB_W4:=hid (HB_W3.out.trans (HQ_W4.out.mono hs_W3))
 have hs_W4:w.heap.size≤W4.heap.size:=HB_W4.out.size
 clear l_c f_c H_c c_c0 c_c1 c_c2 c_c3 c_c4 l_d f_d H_d c_d0 c_d1 c_d2 c_d3 c_d4 l_f f_f H_f c_f0 c_f1 c_f2 c_f3 c_f4 c_f5 c_f6
 have l_c:=lt_blk g_c
 obtain⟨c_c0,c_c1,c_c2,c_c3,c_c4⟩:=cells5 g_c
 have f_c:=frees g_c
 have H_c:=hid g_c
 clear g_c
 have l_d:=lt_blk g_d
 obtain⟨c_d0,c_d1,c_d2,c_d3,c_d4⟩:=cells5 g_d
 have f_d:=frees g_d
 have H_d:=hid g_d
 clear g_d
 have l_f:=lt_blk g_f
 obtain⟨c_f0,c_f1,c_f2,c_f3,c_f4,c_f5,c_f6⟩:=cells7 g_f
 have f_f:=frees g_f
 have H_f:=hid g_f
 clear g_f
 have HOd:=hid ho
 have HNd:=hid hnd3
 have h70d:nd3≤70:=by have:=lit_len H;omega
 have HCd:=hid (show nd3≤cd3 by obtain⟨A5,c5,hv,hc,-⟩:=ownsRow_form ho;cases hv;exact hc)
 have HOc2:=hid (own_below HOc.out hb)
 clear hb ho hnd3
 go_upto_region 3 with(fail)
 refine wp_w (fun W=>W.heap[w.heap.size]? =some (.cells #[.slice Ar m cr,.int .i64 mc,.int .i64 mt,.int .i64 mf,.int .i64 wt] 24 (0,0))∧W.heap[w.heap.size+1]? =some (.cells #[.slice As m2 cd,.int .i64 mc2,.int .i64 mt2,.int .i64 mf2,.int .i64 wt2] 24 (0,0))∧W.heap[W2.heap.size]? =some (.cells #[.int .i64 0,.int .i64 0,.int .i64 0,.slice Ac nc3 cc3,.int .i64 0,.int .i64 0,.int .i64 0] 28 (0,0))∧W.heap[W4.heap.size]? =some (.cells #[.int .i64 0,.int .i64 0,.int .i64 0,.slice Ad nd3 cd3,.int .i64 0,.int .i64 0,.int .i64 0] 28 (0,0))∧Below w.heap.size w W∧W.ownsRow (w.heap.size+1+1) 57 2 (.slice Ac nc3 cc3) nc3 (cellsE (litE E))∧W.ownsRow (w.heap.size+1+1) 57 2 (.slice Ad nd3 cd3) nd3 (cellsE (litE H))) ⟨(by with_reducible refine alloc_off (alloc_off ?_);(iterate 5 (with_reducible refine set_off ?_ (by omega)));exact H_c.out),(by with_reducible refine alloc_off (alloc_off ?_);exact rows5 (cs:=#[.slice As nd cd,.int .i64 mc2,.int .i64 mt2,.int .i64 mf2,.int .i64 wt2]) H_d.out rfl _ _ _ _ _),(by with_reducible refine alloc_off (alloc_off ?_);(iterate 5 (with_reducible refine set_off ?_ (by omega)));exact H_f.out),(by with_reducible refine alloc_off (heap_alloc_at _ _ _ ?_);simp),(by with_reducible refine Below.alloc (Below.alloc ?_ (by simp;omega) _) (by simp;omega) _;(iterate 5 (with_reducible refine Below.setCell ?_ (by first|omega|(dsimp only;omega)) _));exact HB_W4.out),(by refine own_base (own_keep HOc2.out (fun k hk=>?_)) (by omega);have hle:=own_le HOc2.out hk;have hlt:=own_lt HOc2.out hk;with_reducible refine(Below.heap_alloc _ _ k (by simp;omega)).trans ?_;with_reducible refine(Below.heap_alloc _ _ k (by simp;omega)).trans ?_;(iterate 5 (with_reducible refine set_off ?_ (by omega)));rfl),(by refine own_base (own_keep HOd.out (fun k hk=>?_)) (by omega);have hle:=own_le HOd.out hk;have hlt:=own_lt HOd.out hk;with_reducible refine(Below.heap_alloc _ _ k (by simp;omega)).trans ?_;with_reducible refine(Below.heap_alloc _ _ k (by simp;omega)).trans ?_;(iterate 5 (with_reducible refine set_off ?_ (by omega)));rfl)⟩ ?_
 clear l_c f_c H_c c_c0 c_c1 c_c2 c_c3 c_c4 l_d f_d H_d c_d0 c_d1 c_d2 c_d3 c_d4 l_f f_f H_f c_f0 c_f1 c_f2 c_f3 c_f4 c_f5 c_f6
 rintro W5 ⟨g_c,g_d,g_f,g_h,hbw,ex0,ex1⟩
 have HB_W5:=hid hbw
 have hs_W5:=hbw.size
 clear hbw
 have l_c:=lt_blk g_c
 obtain⟨c_c0,c_c1,c_c2,c_c3,c_c4⟩:=cells5 g_c
 have f_c:=frees g_c
 have H_c:=hid g_c
 clear g_c
 have l_d:=lt_blk g_d
 obtain⟨c_d0,c_d1,c_d2,c_d3,c_d4⟩:=cells5 g_d
 have f_d:=frees g_d
 have H_d:=hid g_d
 clear g_d
 have l_f:=lt_blk g_f
 obtain⟨c_f0,c_f1,c_f2,c_f3,c_f4,c_f5,c_f6⟩:=cells7 g_f
 have f_f:=frees g_f
 have H_f:=hid g_f
 clear g_f
 have l_h:=lt_blk g_h
 obtain⟨c_h0,c_h1,c_h2,c_h3,c_h4,c_h5,c_h6⟩:=cells7 g_h
 have f_h:=frees g_h
 have H_h:=hid g_h
 clear g_h
 have HOc5:=hid ex0
 have HOd5:=hid ex1
 clear ex0 ex1 HOc HOc2 HOd
 have HR5:=hid ((rulesAt_take (HR.out.keep HB_W5.out) 20).more hs_W5)
 have HD5:=hid ((rulesAt_take (HD.out.keep HB_W5.out) 20).more hs_W5)
 have HE5:=hid (lit_at HE.out (Nat.le_refl _) HB_W5.out HOc5.out)
 have HH5:=hid (lit_at HH.out (Nat.le_refl _) HB_W5.out HOd5.out)
 have HLE:=hid (lit_data E)
 have HLH:=hid (lit_data H)
 have HRW:=hid (rulesAt_take HR.out 20)
 have HDW:=hid (rulesAt_take HD.out 20)
 generalize R.take 20=R1 at HR5 HRM HRW
 generalize D.take 20=D1 at HD5 HDM HDW
 generalize litE E=F at HOc5 HE5 HNc HLE
 generalize litE H=J at HOd5 HH5 HNd HLH
 obtain⟨L,hL⟩: ∃L,F.map Ent.o=L:=⟨_,rfl⟩
 have HL:=hid hL
 obtain⟨M,hM⟩: ∃L,J.map Ent.o=L:=⟨_,rfl⟩
 have HML:=hid hM
 clear hL hM HOc5 HOd5
 go_wp2_with fail
 refine(Ne.ranswer_any Ar Ad m cr nd3 cd3 0 mf R1 J M HML.out _ W5.heap.size (Nat.le_refl _) HR5.out HRM.out (by omega) HH5.out HNd.out HCd.out (by omega) (fun e he=>by have:=HLH.out e he;omega)).mono ?_
 obtain⟨one,hone⟩: ∃r,Ne.answerO R1 M 0 mf=r:=⟨_,rfl⟩
 rw[hone]
 have HAone:=hid hone
 obtain⟨kone,lone⟩:=one
 clear hone
 dsimp only
 rintro x W6 hj
 obtain⟨Ajone,njone,cjone,rfl,hb⟩:=rowsJ_form hj
 have g_c:=(hb.block _ l_c).trans H_c.out
 have g_d:=(hb.block _ l_d).trans H_d.out
 have g_f:=(hb.block _ l_f).trans H_f.out
 have g_h:=(hb.block _ l_h).trans H_h.out
 have HQ_W6:=hid hb
 have hq_W6:=hb.size
 have HB_W6:=hid (HB_W5.out.trans (HQ_W6.out.mono hs_W5))
 have hs_W6:w.heap.size≤W6.heap.size:=HB_W6.out.size
 clear l_c f_c H_c c_c0 c_c1 c_c2 c_c3 c_c4 l_d f_d H_d c_d0 c_d1 c_d2 c_d3 c_d4 l_f f_f H_f c_f0 c_f1 c_f2 c_f3 c_f4 c_f5 c_f6 l_h f_h H_h c_h0 c_h1 c_h2 c_h3 c_h4 c_h5 c_h6
 have l_c:=lt_blk g_c
 obtain⟨c_c0,c_c1,c_c2,c_c3,c_c4⟩:=cells5 g_c
 have f_c:=frees g_c
 have H_c:=hid g_c
 clear g_c
 have l_d:=lt_blk g_d
 obtain⟨c_d0,c_d1,c_d2,c_d3,c_d4⟩:=cells5 g_d
 have f_d:=frees g_d
 have H_d:=hid g_d
 clear g_d
 have l_f:=lt_blk g_f
 obtain⟨c_f0,c_f1,c_f2,c_f3,c_f4,c_f5,c_f6⟩:=cells7 g_f
 have f_f:=frees g_f
 have H_f:=hid g_f
 clear g_f
 have l_h:=lt_blk g_h
 obtain⟨c_h0,c_h1,c_h2,c_h3,c_h4,c_h5,c_h6⟩:=cells7 g_h
 have f_h:=frees g_h
 have H_h:=hid g_h
 clear g_h
 have HQ5W6:=hid hb
 clear hb hj
 go_wp2_with fail
 refine(Ne.ranswer_any As Ac m2 cd nc3 cc3 0 mf2 D1 F L HL.out _ W5.heap.size HQ5W6.out.size (HD5.out.keep HQ5W6.out) HDM.out (by omega) (HE5.out.keep HQ5W6.out) HNc.out HCc.out (by omega) (fun e he=>by have:=HLE.out e he;omega)).mono ?_
 obtain⟨two,htwo⟩: ∃r,Ne.answerO D1 L 0 mf2=r:=⟨_,rfl⟩
 rw[htwo]
 have HAtwo:=hid htwo
 obtain⟨ktwo,ltwo⟩:=two
 clear htwo
 dsimp only
 rintro x W7 hj
 obtain⟨Ajtwo,njtwo,cjtwo,rfl,hb⟩:=rowsJ_form hj
 have g_c:=(hb.block _ l_c).trans H_c.out
 have g_d:=(hb.block _ l_d).trans H_d.out
 have g_f:=(hb.block _ l_f).trans H_f.out
 have g_h:=(hb.block _ l_h).trans H_h.out
 have HQ_W7:=hid hb
 have hq_W7:=hb.size
 have HB_W7:=hid (HB_W6.out.trans (HQ_W7.out.mono hs_W6))
 have hs_W7:w.heap.size≤W7.heap.size:=HB_W7.out.size
 clear l_c f_c H_c c_c0 c_c1 c_c2 c_c3 c_c4 l_d f_d H_d c_d0 c_d1 c_d2 c_d3 c_d4 l_f f_f H_f c_f0 c_f1 c_f2 c_f3 c_f4 c_f5 c_f6 l_h f_h H_h c_h0 c_h1 c_h2 c_h3 c_h4 c_h5 c_h6
 have l_c:=lt_blk g_c
 obtain⟨c_c0,c_c1,c_c2,c_c3,c_c4⟩:=cells5 g_c
 have f_c:=frees g_c
 have H_c:=hid g_c
 clear g_c
 have l_d:=lt_blk g_d
 obtain⟨c_d0,c_d1,c_d2,c_d3,c_d4⟩:=cells5 g_d
 have f_d:=frees g_d
 have H_d:=hid g_d
 clear g_d
 have l_f:=lt_blk g_f
 obtain⟨c_f0,c_f1,c_f2,c_f3,c_f4,c_f5,c_f6⟩:=cells7 g_f
 have f_f:=frees g_f
 have H_f:=hid g_f
 clear g_f
 have l_h:=lt_blk g_h
 obtain⟨c_h0,c_h1,c_h2,c_h3,c_h4,c_h5,c_h6⟩:=cells7 g_h
 have f_h:=frees g_h
 have H_h:=hid g_h
 clear g_h
 have HQ57:=hid (HQ5W6.out.trans (hb.mono HQ5W6.out.size))
 clear hb hj
 go_wp2_with fail
 refine(side_any Ar Ac m cr nc3 cc3 R1 mc mt mf wt F L HL.out _ W5.heap.size HQ57.out.size (HR5.out.keep HQ57.out) HRM.out (by omega) (HE5.out.keep HQ57.out) HNc.out (by omega) (fun e he=>by have:=HLE.out e he;omega)).mono ?_
 rintro x W8 ⟨s1,d1,r1,q1,t1,k1,va1,vo1,ok1,rfl,hb,⟨Av1,nv1,cv1,rfl⟩,⟨Ao1,no1,co1,rfl⟩,hok,hP⟩
 have g_c:=(hb.block _ l_c).trans H_c.out
 have g_d:=(hb.block _ l_d).trans H_d.out
 have g_f:=(hb.block _ l_f).trans H_f.out
 have g_h:=(hb.block _ l_h).trans H_h.out
 have HQ_W8:=hid hb
 have hq_W8:=hb.size
 have HB_W8:=hid (HB_W7.out.trans (HQ_W8.out.mono hs_W7))
 have hs_W8:w.heap.size≤W8.heap.size:=HB_W8.out.size
 clear l_c f_c H_c c_c0 c_c1 c_c2 c_c3 c_c4 l_d f_d H_d c_d0 c_d1 c_d2 c_d3 c_d4 l_f f_f H_f c_f0 c_f1 c_f2 c_f3 c_f4 c_f5 c_f6 l_h f_h H_h c_h0 c_h1 c_h2 c_h3 c_h4 c_h5 c_h6
 have l_c:=lt_blk g_c
 obtain⟨c_c0,c_c1,c_c2,c_c3,c_c4⟩:=cells5 g_c
 have f_c:=frees g_c
 have H_c:=hid g_c
 clear g_c
 have l_d:=lt_blk g_d
 obtain⟨c_d0,c_d1,c_d2,c_d3,c_d4⟩:=cells5 g_d
 have f_d:=frees g_d
 have H_d:=hid g_d
 clear g_d
 have l_f:=lt_blk g_f
 obtain⟨c_f0,c_f1,c_f2,c_f3,c_f4,c_f5,c_f6⟩:=cells7 g_f
 have f_f:=frees g_f
 have H_f:=hid g_f
 clear g_f
 have l_h:=lt_blk g_h
 obtain⟨c_h0,c_h1,c_h2,c_h3,c_h4,c_h5,c_h6⟩:=cells7 g_h
 have f_h:=frees g_h
 have H_h:=hid g_h
 clear g_h
 have HOK1:=hid hok
 have HP1:=hid hP
 have HQ:=hid (HQ57.out.trans (hb.mono HQ57.out.size))
 clear hb hok hP
 go_upto_region 6 with(fail)
 refine wp_w (fun W=>W.heap[w.heap.size]? =some (.cells #[.slice Ar m cr,.int .i64 mc,.int .i64 mt,.int .i64 mf,.int .i64 wt] 24 (0,0))∧W.heap[w.heap.size+1]? =some (.cells #[.slice As m2 cd,.int .i64 mc2,.int .i64 mt2,.int .i64 mf2,.int .i64 wt2] 24 (0,0))∧W.heap[W2.heap.size]? =some (.cells #[.int .i64 0,.int .i64 0,.int .i64 0,.slice Ac nc3 cc3,.int .i64 0,.int .i64 0,.int .i64 0] 28 (0,0))∧W.heap[W4.heap.size]? =some (.cells #[.int .i64 0,.int .i64 0,.int .i64 0,.slice Ad nd3 cd3,.int .i64 0,.int .i64 0,.int .i64 0] 28 (0,0))∧W.heap[W8.heap.size]? =some (.cells #[.int .i64 s1,.int .i64 d1,.int .i64 r1,.slice Av1 nv1 cv1,.int .i64 q1,.int .i64 t1,.int .i64 k1] 28 (0,0))∧Below w.heap.size w W∧Below W8.heap.size W8 W) ⟨(alloc_off H_c.out),(alloc_off H_d.out),(alloc_off H_f.out),(alloc_off H_h.out),(heap_alloc_new _ _),(Below.alloc HB_W8.out hs_W8 _),(Below.alloc (Below.refl _ _) (Nat.le_refl _) _)⟩ ?_
 clear l_c f_c H_c c_c0 c_c1 c_c2 c_c3 c_c4 l_d f_d H_d c_d0 c_d1 c_d2 c_d3 c_d4 l_f f_f H_f c_f0 c_f1 c_f2 c_f3 c_f4 c_f5 c_f6 l_h f_h H_h c_h0 c_h1 c_h2 c_h3 c_h4 c_h5 c_h6
 rintro W9 ⟨g_c,g_d,g_f,g_h,g_a,hbw,ex0⟩
 have HB_W9:=hid hbw
 have hs_W9:=hbw.size
 clear hbw
 have l_c:=lt_blk g_c
 obtain⟨c_c0,c_c1,c_c2,c_c3,c_c4⟩:=cells5 g_c
 have f_c:=frees g_c
 have H_c:=hid g_c
 clear g_c
 have l_d:=lt_blk g_d
 obtain⟨c_d0,c_d1,c_d2,c_d3,c_d4⟩:=cells5 g_d
 have f_d:=frees g_d
 have H_d:=hid g_d
 clear g_d
 have l_f:=lt_blk g_f
 obtain⟨c_f0,c_f1,c_f2,c_f3,c_f4,c_f5,c_f6⟩:=cells7 g_f
 have f_f:=frees g_f
 have H_f:=hid g_f
 clear g_f
 have l_h:=lt_blk g_h
 obtain⟨c_h0,c_h1,c_h2,c_h3,c_h4,c_h5,c_h6⟩:=cells7 g_h
 have f_h:=frees g_h
 have H_h:=hid g_h
 clear g_h
 have l_a:=lt_blk g_a
 obtain⟨c_a0,c_a1,c_a2,c_a3,c_a4,c_a5,c_a6⟩:=cells7 g_a
 have f_a:=frees g_a
 have H_a:=hid g_a
 clear g_a
 have HQn1:=hid ex0
 have HQ59:=hid (HQ.out.trans (ex0.mono HQ.out.size))
 clear ex0 HQ
 have hz9:W8.heap.size<W9.heap.size:=l_a
 go_wp2_with fail
 refine(side_any As Ad m2 cd nd3 cd3 D1 mc2 mt2 mf2 wt2 J M HML.out _ W5.heap.size HQ59.out.size (HD5.out.keep HQ59.out) HDM.out (by omega) (HH5.out.keep HQ59.out) HNd.out (by omega) (fun e he=>by have:=HLH.out e he;omega)).mono ?_
 rintro x W10 ⟨s2,d2,r2,q2,t2,k2,va2,vo2,ok2,rfl,hb,⟨Av2,nv2,cv2,rfl⟩,⟨Ao2,no2,co2,rfl⟩,hok,hP⟩
 have g_c:=(hb.block _ l_c).trans H_c.out
 have g_d:=(hb.block _ l_d).trans H_d.out
 have g_f:=(hb.block _ l_f).trans H_f.out
 have g_h:=(hb.block _ l_h).trans H_h.out
 have g_a:=(hb.block _ l_a).trans H_a.out
 have HQ_W10:=hid hb
 have hq_W10:=hb.size
 have HB_W10:=hid (HB_W9.out.trans (HQ_W10.out.mono hs_W9))
 have hs_W10:w.heap.size≤W10.heap.size:=HB_W10.out.size
 clear l_c f_c H_c c_c0 c_c1 c_c2 c_c3 c_c4 l_d f_d H_d c_d0 c_d1 c_d2 c_d3 c_d4 l_f f_f H_f c_f0 c_f1 c_f2 c_f3 c_f4 c_f5 c_f6 l_h f_h H_h c_h0 c_h1 c_h2 c_h3 c_h4 c_h5 c_h6 l_a f_a H_a c_a0 c_a1 c_a2 c_a3 c_a4 c_a5 c_a6
 have l_c:=lt_blk g_c
 obtain⟨c_c0,c_c1,c_c2,c_c3,c_c4⟩:=cells5 g_c
 have f_c:=frees g_c
 have H_c:=hid g_c
 clear g_c
 have l_d:=lt_blk g_d
 obtain⟨c_d0,c_d1,c_d2,c_d3,c_d4⟩:=cells5 g_d
 have f_d:=frees g_d
 have H_d:=hid g_d
 clear g_d
 have l_f:=lt_blk g_f
 obtain⟨c_f0,c_f1,c_f2,c_f3,c_f4,c_f5,c_f6⟩:=cells7 g_f
 have f_f:=frees g_f
 have H_f:=hid g_f
 clear g_f
 have l_h:=lt_blk g_h
 obtain⟨c_h0,c_h1,c_h2,c_h3,c_h4,c_h5,c_h6⟩:=cells7 g_h
 have f_h:=frees g_h
 have H_h:=hid g_h
 clear g_h
 have l_a:=lt_blk g_a
 obtain⟨c_a0,c_a1,c_a2,c_a3,c_a4,c_a5,c_a6⟩:=cells7 g_a
 have f_a:=frees g_a
 have H_a:=hid g_a
 clear g_a
 have HOK2:=hid hok
 have HP2:=hid hP
 have HQ:=hid (HQ59.out.trans (hb.mono HQ59.out.size))
 have HBc:=hid hb
 clear hb hok hP
 go_upto_region 7 with(fail)
 refine wp_w (fun W=>W.heap[w.heap.size]? =some (.cells #[.slice Ar m cr,.int .i64 mc,.int .i64 mt,.int .i64 mf,.int .i64 wt] 24 (0,0))∧W.heap[w.heap.size+1]? =some (.cells #[.slice As m2 cd,.int .i64 mc2,.int .i64 mt2,.int .i64 mf2,.int .i64 wt2] 24 (0,0))∧W.heap[W8.heap.size]? =some (.cells #[.int .i64 s1,.int .i64 d1,.int .i64 r1,.slice Av1 nv1 cv1,.int .i64 q1,.int .i64 t1,.int .i64 k1] 28 (0,0))∧W.heap[W10.heap.size]? =some (.cells #[.int .i64 s2,.int .i64 d2,.int .i64 r2,.slice Av2 nv2 cv2,.int .i64 q2,.int .i64 t2,.int .i64 k2] 28 (0,0))∧Below w.heap.size w W∧Below W10.heap.size W10 W) ⟨(alloc_off H_c.out),(alloc_off H_d.out),(alloc_off H_a.out),(heap_alloc_new _ _),(Below.alloc HB_W10.out hs_W10 _),(Below.alloc (Below.refl _ _) (Nat.le_refl _) _)⟩ ?_
 clear l_c f_c H_c c_c0 c_c1 c_c2 c_c3 c_c4 l_d f_d H_d c_d0 c_d1 c_d2 c_d3 c_d4 l_f f_f H_f c_f0 c_f1 c_f2 c_f3 c_f4 c_f5 c_f6 l_h f_h H_h c_h0 c_h1 c_h2 c_h3 c_h4 c_h5 c_h6 l_a f_a H_a c_a0 c_a1 c_a2 c_a3 c_a4 c_a5 c_a6
 rintro W11 ⟨g_c,g_d,g_a,g_b,hbw,ex0⟩
 have HB_W11:=hid hbw
 have hs_W11:=hbw.size
 clear hbw
 have l_c:=lt_blk g_c
 obtain⟨c_c0,c_c1,c_c2,c_c3,c_c4⟩:=cells5 g_c
 have f_c:=frees g_c
 have H_c:=hid g_c
 clear g_c
 have l_d:=lt_blk g_d
 obtain⟨c_d0,c_d1,c_d2,c_d3,c_d4⟩:=cells5 g_d
 have f_d:=frees g_d
 have H_d:=hid g_d
 clear g_d
 have l_a:=lt_blk g_a
 obtain⟨c_a0,c_a1,c_a2,c_a3,c_a4,c_a5,c_a6⟩:=cells7 g_a
 have f_a:=frees g_a
 have H_a:=hid g_a
 clear g_a
 have l_b:=lt_blk g_b
 obtain⟨c_b0,c_b1,c_b2,c_b3,c_b4,c_b5,c_b6⟩:=cells7 g_b
 have f_b:=frees g_b
 have H_b:=hid g_b
 clear g_b
 have HQn2:=hid ex0
 have HQ511:=hid (HQ.out.trans (ex0.mono HQ.out.size))
 clear ex0 HQ
 go_wp2_with fail
 refine(awake_any _).mono ?_
 rintro x W12 ⟨rfl,hb⟩
 have g_c:=(hb.block _ l_c).trans H_c.out
 have g_d:=(hb.block _ l_d).trans H_d.out
 have g_a:=(hb.block _ l_a).trans H_a.out
 have g_b:=(hb.block _ l_b).trans H_b.out
 have HQ_W12:=hid hb
 have hq_W12:=hb.size
 have HB_W12:=hid (HB_W11.out.trans (HQ_W12.out.mono hs_W11))
 have hs_W12:w.heap.size≤W12.heap.size:=HB_W12.out.size
 clear l_c f_c H_c c_c0 c_c1 c_c2 c_c3 c_c4 l_d f_d H_d c_d0 c_d1 c_d2 c_d3 c_d4 l_a f_a H_a c_a0 c_a1 c_a2 c_a3 c_a4 c_a5 c_a6 l_b f_b H_b c_b0 c_b1 c_b2 c_b3 c_b4 c_b5 c_b6
 have l_c:=lt_blk g_c
 obtain⟨c_c0,c_c1,c_c2,c_c3,c_c4⟩:=cells5 g_c
 have f_c:=frees g_c
 have H_c:=hid g_c
 clear g_c
 have l_d:=lt_blk g_d
 obtain⟨c_d0,c_d1,c_d2,c_d3,c_d4⟩:=cells5 g_d
 have f_d:=frees g_d
 have H_d:=hid g_d
 clear g_d
 have l_a:=lt_blk g_a
 obtain⟨c_a0,c_a1,c_a2,c_a3,c_a4,c_a5,c_a6⟩:=cells7 g_a
 have f_a:=frees g_a
 have H_a:=hid g_a
 clear g_a
 have l_b:=lt_blk g_b
 obtain⟨c_b0,c_b1,c_b2,c_b3,c_b4,c_b5,c_b6⟩:=cells7 g_b
 have f_b:=frees g_b
 have H_b:=hid g_b
 clear g_b
 have HQc:=hid hb
 clear hb
 cases ok1
 ·skip
  go_wp2_with fail
  refine(awake_any _).mono ?_
  rintro x Wz ⟨rfl,hbz⟩
  have HZ:=hid (HB_W12.out.trans (hbz.mono hs_W12))
  clear hbz
  go_wp2_with fail
  go_ret
  exact⟨rfl,HZ.out⟩
 ·skip
  cases ok2
  ·skip
   go_wp2_with fail
   refine(awake_any _).mono ?_
   rintro x Wz ⟨rfl,hbz⟩
   have HZ:=hid (HB_W12.out.trans (hbz.mono hs_W12))
   clear hbz
   go_wp2_with fail
   go_ret
   exact⟨rfl,HZ.out⟩
  ·skip
   by_cases hone:kone=2
   rotate_left
   ·have hone2:(kone !=2)=true:=by simpa using hone
    go_wp2_with fail
    refine(awake_any _).mono ?_
    rintro x Wz ⟨rfl,hbz⟩
    have HZ:=hid (HB_W12.out.trans (hbz.mono hs_W12))
    clear hbz
    go_wp2_with fail
    go_ret
    exact⟨rfl,HZ.out⟩
   subst hone
   by_cases htwo:ktwo=2
   rotate_left
   ·have htwo2:(ktwo !=2)=true:=by simpa using htwo
    go_wp2_with fail
    refine(awake_any _).mono ?_
    rintro x Wz ⟨rfl,hbz⟩
    have HZ:=hid (HB_W12.out.trans (hbz.mono hs_W12))
    clear hbz
    go_wp2_with fail
    go_ret
    exact⟨rfl,HZ.out⟩
   subst htwo
   have HB1012:=hid (HQn2.out.trans (HQc.out.mono HQn2.out.size))
   have HB912:=hid (HBc.out.trans (HB1012.out.mono HBc.out.size))
   have HB812:=hid (HQn1.out.trans (HB912.out.mono HQn1.out.size))
   obtain⟨rfl,rfl,rfl,rfl,ht1,rfl,hO1,P1,hP1,hp1⟩:=HP1.out rfl
   obtain rfl:=ht1.symm
   have hck1:=HOK1.out
   have HC1:=hid (show confB ⟨R1,mc,mt,mf,wt⟩=true by revert hck1;cases confB ⟨R1,mc,mt,mf,wt⟩<;>simp)
   have HX1:=hid (show(Op.encR L).2=0 by have h:=HC1.out;rw[h] at hck1;simpa using hck1.symm)
   clear hck1
   have HOV1:=hid (hO1.below HB812.out)
   have HT1:=hid (show Tl W12 w.heap.size Ao1 no1 co1 P1 from(Tl.of_own hP1 (by have:=HB_W7.out.size;omega)).below HB812.out)
   have HPO1:=hid hP1
   have HPM1:=hid hp1
   clear hO1 hP1 hp1
   obtain⟨rfl,rfl,rfl,rfl,ht2,rfl,hO2,P2,hP2,hp2⟩:=HP2.out rfl
   obtain rfl:=ht2.symm
   have hck2:=HOK2.out
   have HC2:=hid (show confB ⟨D1,mc2,mt2,mf2,wt2⟩=true by revert hck2;cases confB ⟨D1,mc2,mt2,mf2,wt2⟩<;>simp)
   have HX2:=hid (show(Op.encR M).2=0 by have h:=HC2.out;rw[h] at hck2;simpa using hck2.symm)
   clear hck2
   have HOV2:=hid (hO2.below HB1012.out)
   have HT2:=hid (show Tl W12 w.heap.size Ao2 no2 co2 P2 from(Tl.of_own hP2 (by have:=HB_W9.out.size;omega)).below HB1012.out)
   have HPO2:=hid hP2
   have HPM2:=hid hp2
   clear hO2 hP2 hp2
   have HTK1:=hid (show(Ne.answerO R1 M 0 mf).1=2 by rw[HAone.out])
   have HTK2:=hid (show(Ne.answerO D1 L 0 mf2).1=2 by rw[HAtwo.out])
   have HNE:=hid (show∀g,tlB Ao2=some g→tlB Ao1≠some g from fun g h1 h2=>by have a1:=own_lt HPO1.out.1 (show(Value.slice Ao1 no1 co1).ownBlock=some g from tl_own h2);have a2:=own_le HPO2.out.1 (show(Value.slice Ao2 no2 co2).ownBlock=some g from tl_own h1);have:=HQn1.out.size;omega)
   go_upto_region 9 with(fail)
   refine wp_w (fun W=>MeetI w (w.heap.size) (w.heap.size+1) W8.heap.size W10.heap.size #[.slice Ar m cr,.int .i64 mc,.int .i64 mt,.int .i64 mf,.int .i64 wt] #[.slice As m2 cd,.int .i64 mc2,.int .i64 mt2,.int .i64 mf2,.int .i64 wt2] ⟨R1,mc,mt,mf,wt⟩ ⟨D1,mc2,mt2,mf2,wt2⟩ L M (.slice Ao1 no1 co1) (.slice Ao2 no2 co2) (.int .i64 0) W) ⟨0,0,Ao2,Ao1,Av1,Av2,no2,co2,no1,co1,nv1,cv1,nv2,cv2,P2,P1,rfl,rfl,rfl,⟨by omega,by omega,by omega,by omega⟩,by rw[HPM2.out];rfl,by rw[HPM1.out];rfl,H_c.out,H_d.out,H_a.out,H_b.out,⟨_,HOV1.out⟩,⟨_,HOV2.out⟩,HT2.out,HT1.out,HNE.out,by have:=HB1012.out.size;have h1:=HQn1.out.size;have h2:=HBc.out.size;omega,by have:=HB_W8.out.size;omega,by have:=HB_W10.out.size;omega,HB_W12.out⟩ ?_
   clear l_c f_c H_c c_c0 c_c1 c_c2 c_c3 c_c4 l_d f_d H_d c_d0 c_d1 c_d2 c_d3 c_d4 l_a f_a H_a c_a0 c_a1 c_a2 c_a3 c_a4 c_a5 c_a6 l_b f_b H_b c_b0 c_b1 c_b2 c_b3 c_b4 c_b5 c_b6
   rintro W13 hm0
   have HM0:=hid hm0
   clear hm0
   go_wp2_with fail
   refine wp_loop (InvM w (w.heap.size) (w.heap.size+1) W8.heap.size W10.heap.size #[.slice Ar m cr,.int .i64 mc,.int .i64 mt,.int .i64 mf,.int .i64 wt] #[.slice As m2 cd,.int .i64 mc2,.int .i64 mt2,.int .i64 mf2,.int .i64 wt2] ⟨R1,mc,mt,mf,wt⟩ ⟨D1,mc2,mt2,mf2,wt2⟩ L M (.slice Aw nu cu)) (fun a _=>10-(intOf (a.tmps.getD 25 undef)).toNat) (invM_intro HM0.out (by kernel_rfl)) ?_
   rintro a0 wr ⟨u,s20,s23,s25,hrel,rfl⟩
   unfold frM
   obtain⟨p,q,A1,A2,B1,B2,n1,c1,n2,c2,y1,e1,y2,e2,Q1,Q2,rfl,rfl,rfl,hok,hp1,hp2,hM⟩:=hrel
   have HM:=hid hM
   have HBW:=hid hM.bel
   have hsw:=hM.bel.size
   have HK:=hid hok
   have HP1:=hid hp1
   have HP2:=hid hp2
   have hn1:n1≤2:=by have h:=hM.t1.len;have h2:=mPk_len L M p q;rw[←hp1,List.length_map] at h2;omega
   have hn2:n2≤2:=by have h:=hM.t2.len;have h2:=mPk_len M L q p;rw[←hp2,List.length_map] at h2;omega
   have hpq:=mPk_most (x:=L) (y:=M) hok
   have hpq10:((p+q:Nat):Int)<10:=by omega
   have hw12:IntKind.i64.wrap ((n1:Int)+(n2:Int))=(n1:Int)+(n2:Int):=IntWalk.i64_in _ (by omega)
   have hwk:IntKind.i64.wrap (((p+q:Nat):Int)+1)=((p+q+1:Nat):Int):=by rw[IntWalk.i64_in _ (by omega)];omega
   clear hM hok hp1 hp2
   obtain⟨kk,hkk⟩: ∃k,p+q=k:=⟨_,rfl⟩
   rw[hkk] at hpq hpq10 hwk ⊢
   have HKK:=hid hkk
   clear hkk
   by_cases hend:n1+n2=0
   ·obtain rfl:n1=0:=by omega
    obtain rfl:n2=0:=by omega
    have he:p=2∧q=2:=meet_end (x:=L) (y:=M) HK.out (by rw[←HP1.out,List.eq_nil_of_length_eq_zero HM.out.t1.len.symm];rfl) (by rw[←HP2.out,List.eq_nil_of_length_eq_zero HM.out.t2.len.symm];rfl)
    obtain⟨rfl,rfl⟩:=he
    obtain⟨x0,x1,x2,x3,x4,x5,x6⟩:=cells7 (show wr.heap[W8.heap.size]? =some (.cells #[.int .i64 9,.int .i64 1,.int .i64 1,.slice B1 y1 e1,.int .i64 mc,.int .i64 0,.int .i64 0] 28 (0,0)) from HM.out.ra)
    obtain⟨z0,z1,z2,z3,z4,z5,z6⟩:=cells7 (show wr.heap[W10.heap.size]? =some (.cells #[.int .i64 9,.int .i64 1,.int .i64 1,.slice B2 y2 e2,.int .i64 mc2,.int .i64 0,.int .i64 0] 28 (0,0)) from HM.out.rb)
    go_wp2_with fail
    go_ret
    exact⟨rfl,HBW.out⟩
   ·have hpos:(0:Int)<(n1:Int)+(n2:Int):=by omega
    go_upto_region 12 with(fail)
    go_cut [26] (fun s26 wx=> ∃lf:Bool,s26=.bool lf∧wr=wx)
    case first=>
     by_cases hkn:kk<nu
     ·obtain⟨b,o,rfl,hbB,hx⟩:=(HU.out.keep HBW.out).get (by rw[List.length_map];have:=HNU.out;omega)
      have hb:=hx kk (.bool (TB[kk]'(by have:=HNU.out;omega))) (by rw[List.getElem?_map,List.getElem?_eq_getElem (by have:=HNU.out;omega)];rfl)
      generalize TB[kk]'_=tb at hb
      have hkI:(kk:Int)<(nu:Int):=by omega
      have hk0:(0:Int)≤(kk:Int):=by omega
      clear hx
      go_wp2_with fail
      go_meet
      exact⟨_,rfl,rfl⟩
     ·have hkI: ¬(kk:Int)<(nu:Int):=by omega
      have hkB:decide ((kk:Int)<(nu:Int))=false:=by simp;omega
      go_wp2_with fail
      go_meet
      exact⟨false,rfl,rfl⟩
    case rest=>
     obtain⟨lf,rfl,rfl⟩:=hcut
     go_upto_region 13 with(fail)
     go_cut [140] (fun s wx=> ∃ch:Bool,s=.bool ch∧(ch=true→0<n1)∧(ch=false→0<n2)∧wr=wx)
     case first=>
      by_cases h1:n1=0
      ·subst h1
       go_wp2_with fail
       go_meet
       exact⟨false,rfl,(fun h=>by cases h),(fun _=>by omega),rfl⟩
      ·have hg1:decide ((0:Int)<(n1:Int))=true:=by simp;omega
       have hg1p:(0:Int)<(n1:Int):=by omega
       cases lf
       ·by_cases h2:n2=0
        ·subst h2
         go_wp2_with fail
         go_meet
         exact⟨true,rfl,(fun _=>by omega),(fun h=>by cases h),rfl⟩
        ·have hg2:((n2:Int)==0)=false:=by simp;omega
         go_wp2_with fail
         go_meet
         exact⟨false,rfl,(fun h=>by cases h),(fun _=>by omega),rfl⟩
       ·go_wp2_with fail
        go_meet
        exact⟨true,rfl,(fun _=>by omega),(fun h=>by cases h),rfl⟩
     case rest=>
      obtain⟨ch,rfl,hch1,hch0,rfl⟩:=hcut
      have HRA:=hid (show RulesAt w w.heap.size Ar R1 from HRW.out)
      have HRB:=hid (show RulesAt w w.heap.size As D1 from HDW.out)
      cases ch
      ·skip
       have HMs:=hid HM.out.swap
       have hnp:0<n2:=hch0 rfl
       clear hch1 hch0
       have hnI:(0:Int)<(n2:Int):=by omega
       obtain⟨⟨ec,ei,xd,ae,ce⟩,rest,rfl⟩:=ne_cons (P:=Q2) (by have:=HMs.out.t1.len;omega)
       have hq:=HP2.out
       rw[List.map_cons] at hq
       obtain⟨acts,hpack,hrest,happ,hok2,hlen⟩:=meet_step (c:=⟨D1,mc2,mt2,mf2,wt2⟩) HK.out.swap hq.symm HC2.out HX2.out HX1.out HTK2.out
       have hdl:xd.length≤400000000:=mPk_data (x:=M) (y:=L) (i:=q) (j:=p) _ (by rw[←hq];exact List.mem_cons_self ..)
       unfold Pe.o at hpack
       dsimp only at hpack
       have HPACK:=hid hpack
       have HREST:=hid hrest
       have HAPP:=hid happ
       have HOK2:=hid hok2
       have HLEN:=hid hlen
       clear hpack hrest happ hok2 hlen hq
       obtain⟨g,o,rfl,hlo,hgl,x0,x1,x2,hat,hec⟩:=HMs.out.t1.head
       unfold Pe.v at x2
       dsimp only at x0 x1 x2 hat hec
       have HAT:=hid hat
       clear hat
       have HRw:=hid ((HRB.out.keep HMs.out.bel).more hsw)
       have HOV:=hid (show OptsV wr wr.heap.size (.slice B2 y2 e2) (mAu ⟨D1,mc2,mt2,mf2,wt2⟩ M q).ask from let ⟨_,h⟩:=HMs.out.oa;h.v)
       have HIS:=hid (mAu_is HC2.out HX2.out q)
       have lX:=lt_blk HMs.out.conf
       have lX0:w.heap.size<wr.heap.size:=by omega
       have nX0: ¬w.heap.size+1=wr.heap.size:=by omega
       have lT:=lt_blk HMs.out.ra
       obtain⟨q0,q1,q2,q3,q4⟩:=cells5 HMs.out.conf
       obtain⟨s0,s1,s2,s3,s4,s5,s6⟩:=cells7 HMs.out.ra
       go_upto_region 18 with(fail)
       obtain⟨a0,ha0⟩: ∃a,mAu ⟨D1,mc2,mt2,mf2,wt2⟩ M q=a:=⟨_,rfl⟩
       rw[ha0] at s0 s1 s2 s4 s5 s6 HOV HIS HPACK
       have HA0:=hid ha0
       clear ha0
       obtain⟨a1,ha1⟩: ∃a,mAu ⟨D1,mc2,mt2,mf2,wt2⟩ M (q+1)=a:=⟨_,rfl⟩
       rw[ha1] at HPACK
       have HA1:=hid ha1
       clear ha1
       obtain⟨ou,hou⟩: ∃l,mOut L q=l:=⟨_,rfl⟩
       rw[hou] at HPACK HAPP HLEN
       clear hou
       go_cut [31,32] (fun s27 s28 wx=> ∃(P9:Nat) (W9:World) (Av Ao9:Option Addr) (nv cv no9 co9:Nat),W9=wx∧s27=.pointer (some ⟨P9,0,none⟩)∧s28=.slice Ao9 no9 co9∧W9.heap[P9]? =some (.cells (auC a1 (.slice Av nv cv)) 28 (0,0))∧Below wr.heap.size wr W9∧(∃z,OptsO W9 z (.slice Av nv cv) a1.ask)∧(∃z,PksO W9 z (.slice Ao9 no9 co9) ou))
       case first=>
        go_region_held3 (fun w'=>w'.cell? ⟨w.heap.size+1,0,none⟩=some (.slice As m2 cd)∧w'.cell? ⟨w.heap.size+1,1,none⟩=some (.int .i64 mc2)∧w'.cell? ⟨w.heap.size+1,2,none⟩=some (.int .i64 mt2)∧w'.cell? ⟨w.heap.size+1,3,none⟩=some (.int .i64 mf2)∧w'.cell? ⟨w.heap.size+1,4,none⟩=some (.int .i64 wt2)∧w'.cell? ⟨W10.heap.size,0,none⟩=some (.int .i64 a0.st)∧w'.cell? ⟨W10.heap.size,1,none⟩=some (.int .i64 a0.id)∧w'.cell? ⟨W10.heap.size,2,none⟩=some (.int .i64 a0.req)∧w'.cell? ⟨W10.heap.size,3,none⟩=some (.slice B2 y2 e2)∧w'.cell? ⟨W10.heap.size,4,none⟩=some (.int .i64 a0.cnt)∧w'.cell? ⟨W10.heap.size,5,none⟩=some (.int .i64 a0.tim)∧w'.cell? ⟨W10.heap.size,6,none⟩=some (.int .i64 a0.nak)∧w'.cell? ⟨g,o,none⟩=some (.int .i64 ec)∧w'.cell? ⟨g,o+1,none⟩=some (.int .i64 ei)∧w'.cell? ⟨g,o+2,none⟩=some (.slice ae xd.length ce)) (first|(go_keep;done)|(go_simp;done)|(simp[go_sem];done)) (((go_at_call 19;go_must (refine(pack_v ⟨D1,mc2,mt2,mf2,wt2⟩ As m2 cd a0 (.slice B2 y2 e2) ⟨ec,ei,xd⟩ ae xd.length ce 1 _ wr.heap.size (by(first|assumption|(simp only[size_ext,grow];omega)|(simp[size_ext,grow];omega)|(simp[size_ext,grow];done))) (by exact HRw.out.keep (by exact bel)) HDM.out hm220 HIS.out (by exact HOV.out.keep (by exact bel)) (by exact HAT.out.keep (by exact bel)) rfl hec hdl).mono ?_);rw[HPACK.out];unfold PackP auV;dsimp only;rintro x w9 ⟨va,vo,vd,rfl,hb9,hO9,hP9,-⟩;obtain⟨Av9,nv9,cv9,rfl⟩:=hO9.form;obtain⟨Ao9,co9,rfl⟩:=pks_form hP9;obtain⟨xs9,d9,rfl⟩:=ext_of hb9;have HO9:=hid hO9;have HP9:=hid hP9;clear hb9 hO9 hP9;have lg9:wr.heap.size<grow (wr.heap.size+1) xs9:=(by simp only[grow];omega);have nT9: ¬W10.heap.size=grow wr.heap.size xs9:=(by simp only[grow];omega);have nX9: ¬w.heap.size+1=grow wr.heap.size xs9:=(by simp only[grow];omega))))
        all_goals
         go_wp2_with fail
         go_meet
         refine⟨_,_,Av9,Ao9,nv9,cv9,_,co9,rfl,rfl,rfl,?_,?_,?_,?_⟩
         ·unfold auC
          first
           |(with_reducible refine heap_alloc_at _ _ _ ?_;(first|(simp[size_ext,grow];done)|(simp[size_ext,grow];omega)))
           |(with_reducible refine(heap_ext _ _ _ _ ?_).trans (heap_alloc_at _ _ _ ?_)<;>(first|(simp[size_ext,grow];done)|(simp[size_ext,grow];omega)))
         ·first
           |(with_reducible refine Below.alloc (below_ext (Below.refl _ _) ?_ _ _) ?_ _<;>(first|assumption|(simp only[size_ext,grow];omega)|(simp[size_ext,grow];omega)|(simp[size_ext,grow];done)))
           |(with_reducible refine below_ext (Below.alloc (Below.refl _ _) ?_ _) ?_ _ _<;>(first|assumption|(simp only[size_ext,grow];omega)|(simp[size_ext,grow];omega)|(simp[size_ext,grow];done)))
         ·have h5:=HO9.out
          first
           |(with_reducible refine⟨_,o_ord1 h5⟩)
           |(with_reducible refine⟨_,o_ord2 h5 ?_⟩;simp)
         ·have h5:=HP9.out
          first
           |(with_reducible refine⟨_,p_ord1 h5⟩)
           |(with_reducible refine⟨_,p_ord2 h5 ?_⟩;simp)
       case rest=>
        obtain⟨P9,W9,Av,Ao9,nv,cv,no9,co9,rfl,rfl,rfl,hrow,hb9,ho9,hp9⟩:=hcut
        have HM9:=hid (HMs.out.below hb9)
        have HO9:=hid ho9
        have HP9:=hid hp9
        have HROW:=hid hrow
        clear q0 q1 q2 q3 q4 s0 s1 s2 s3 s4 s5 s6 x0 x1 x2 hb9 ho9 hp9
        obtain⟨t0,t1,t2,t3,t4,t5,t6⟩:=cells7 hrow
        obtain⟨s0,s1,s2,s3,s4,s5,s6⟩:=cells7 HM9.out.ra
        have fs:=frees HM9.out.ra
        clear hrow
        go_upto_region 20 with(fail)
        refine wp_w (fun W=>Meet w W (w.heap.size+1) (w.heap.size) W10.heap.size W8.heap.size #[.slice As m2 cd,.int .i64 mc2,.int .i64 mt2,.int .i64 mf2,.int .i64 wt2] #[.slice Ar m cr,.int .i64 mc,.int .i64 mt,.int .i64 mf,.int .i64 wt] a1 (.slice Av nv cv) (mAu ⟨R1,mc,mt,mf,wt⟩ L p) (.slice B1 y1 e1) (some ⟨g,o,none⟩) n2 c2 (⟨ec,ei,xd,ae,ce⟩::rest) A1 n1 c1 Q1∧ ∃z,PksO W z (.slice Ao9 no9 co9) ou) ⟨by exact HM9.out.storeA HO9.out,by obtain⟨z,h⟩:=HP9.out;exact⟨z,h.other (grown7 _ _ a1 (.slice Av nv cv)) HM9.out.ra (by decide) (by decide)⟩⟩ ?_
        clear s0 s1 s2 s3 s4 s5 s6 t0 t1 t2 t3 t4 t5 t6 fs
        rintro W10x ⟨hm,z9,Po,hPo,hpo⟩
        have HM10:=hid hm
        have hsx:=hm.bel.size
        have hle:=hm.t1.le
        have HTO:=hid (show Tl W10x 0 Ao9 no9 co9 Po from Tl.of_own hPo (Nat.zero_le _))
        have HPO:=hid hpo
        have hno9:no9≤1:=by have h:=HTO.out.len;have h2:=HLEN.out;rw[←hpo,List.length_map] at h2;omega
        clear hm hPo hpo
        have hi1:(1:Int)≤(n2:Int):=by omega
        have hi2:(n2:Int)≤(c2:Int):=by omega
        have hwn:IntKind.i64.wrap ((n2:Int)-1)=((n2-1:Nat):Int):=by rw[IntWalk.i64_in _ (by omega)];omega
        go_wp2_with (at_builtin;go_loud (refine wpList_tl rfl (.tmp 172) (.tmp 173) rfl HM10.out.t2 rfl (by omega) (by omega) HTO.out rfl hno9 ?_);intro A9 c9 w11 ht11 hg11 hb11;have HM11:=hid (HM10.out.app ht11 hg11 hb11);clear ht11 hg11 hb11)
        ·skip
         refine⟨invM_intro (s20:=.slice (some ⟨g,o,none⟩) (n2-1) 0) (s23:=.slice A9 (n1+no9) c9) (s25:=.int .i64 ((kk:Int)+1)) ?_ (by kernel_rfl),by simp[intOf];omega⟩
         have HM12:=HM11.out
         rw[←HA1.out] at HM12
         have HM13:=HM12.pop1 (by assumption)
         exact⟨p,q+1,A9,some ⟨g,o,none⟩,B1,Av,n1+no9,c9,n2-1,0,y1,e1,nv,cv,Q1++Po,rest,rfl,rfl,congrArg (Value.int .i64) (by have:=HKK.out;omega),HOK2.out.swap,by rw[List.map_append,HP1.out,HPO.out,HAPP.out],HREST.out,HM13.swap⟩
        ·skip
         refine⟨invM_intro (s20:=.slice (some ⟨g,o+3,none⟩) (n2-1) (c2-1)) (s23:=.slice A9 (n1+no9) c9) (s25:=.int .i64 ((kk:Int)+1)) ?_ (by kernel_rfl),by simp[intOf];omega⟩
         have HM12:=HM11.out
         rw[←HA1.out] at HM12
         have HM13:=HM12.pop
         exact⟨p,q+1,A9,some ⟨g,o+3,none⟩,B1,Av,n1+no9,c9,n2-1,c2-1,y1,e1,nv,cv,Q1++Po,rest,rfl,rfl,congrArg (Value.int .i64) (by have:=HKK.out;omega),HOK2.out.swap,by rw[List.map_append,HP1.out,HPO.out,HAPP.out],HREST.out,HM13.swap⟩
      ·skip
       have hnp:0<n1:=hch1 rfl
       clear hch1 hch0
       have hnI:(0:Int)<(n1:Int):=by omega
       obtain⟨⟨ec,ei,xd,ae,ce⟩,rest,rfl⟩:=ne_cons (P:=Q1) (by have:=HM.out.t1.len;omega)
       have hq:=HP1.out
       rw[List.map_cons] at hq
       obtain⟨acts,hpack,hrest,happ,hok2,hlen⟩:=meet_step (c:=⟨R1,mc,mt,mf,wt⟩) HK.out hq.symm HC1.out HX1.out HX2.out HTK1.out
       have hdl:xd.length≤400000000:=mPk_data (x:=L) (y:=M) (i:=p) (j:=q) _ (by rw[←hq];exact List.mem_cons_self ..)
       unfold Pe.o at hpack
       dsimp only at hpack
       have HPACK:=hid hpack
       have HREST:=hid hrest
       have HAPP:=hid happ
       have HOK2:=hid hok2
       have HLEN:=hid hlen
       clear hpack hrest happ hok2 hlen hq
       obtain⟨g,o,rfl,hlo,hgl,x0,x1,x2,hat,hec⟩:=HM.out.t1.head
       unfold Pe.v at x2
       dsimp only at x0 x1 x2 hat hec
       have HAT:=hid hat
       clear hat
       have HRw:=hid ((HRA.out.keep HM.out.bel).more hsw)
       have HOV:=hid (show OptsV wr wr.heap.size (.slice B1 y1 e1) (mAu ⟨R1,mc,mt,mf,wt⟩ L p).ask from let ⟨_,h⟩:=HM.out.oa;h.v)
       have HIS:=hid (mAu_is HC1.out HX1.out p)
       have lX:=lt_blk HM.out.conf
       have lX0:w.heap.size<wr.heap.size:=by omega
       have nX0: ¬w.heap.size=wr.heap.size:=by omega
       have lT:=lt_blk HM.out.ra
       obtain⟨q0,q1,q2,q3,q4⟩:=cells5 HM.out.conf
       obtain⟨s0,s1,s2,s3,s4,s5,s6⟩:=cells7 HM.out.ra
       go_upto_region 14 with(fail)
       obtain⟨a0,ha0⟩: ∃a,mAu ⟨R1,mc,mt,mf,wt⟩ L p=a:=⟨_,rfl⟩
       rw[ha0] at s0 s1 s2 s4 s5 s6 HOV HIS HPACK
       have HA0:=hid ha0
       clear ha0
       obtain⟨a1,ha1⟩: ∃a,mAu ⟨R1,mc,mt,mf,wt⟩ L (p+1)=a:=⟨_,rfl⟩
       rw[ha1] at HPACK
       have HA1:=hid ha1
       clear ha1
       obtain⟨ou,hou⟩: ∃l,mOut M p=l:=⟨_,rfl⟩
       rw[hou] at HPACK HAPP HLEN
       clear hou
       go_cut [27,28] (fun s27 s28 wx=> ∃(P9:Nat) (W9:World) (Av Ao9:Option Addr) (nv cv no9 co9:Nat),W9=wx∧s27=.pointer (some ⟨P9,0,none⟩)∧s28=.slice Ao9 no9 co9∧W9.heap[P9]? =some (.cells (auC a1 (.slice Av nv cv)) 28 (0,0))∧Below wr.heap.size wr W9∧(∃z,OptsO W9 z (.slice Av nv cv) a1.ask)∧(∃z,PksO W9 z (.slice Ao9 no9 co9) ou))
       case first=>
        go_region_held3 (fun w'=>w'.cell? ⟨w.heap.size,0,none⟩=some (.slice Ar m cr)∧w'.cell? ⟨w.heap.size,1,none⟩=some (.int .i64 mc)∧w'.cell? ⟨w.heap.size,2,none⟩=some (.int .i64 mt)∧w'.cell? ⟨w.heap.size,3,none⟩=some (.int .i64 mf)∧w'.cell? ⟨w.heap.size,4,none⟩=some (.int .i64 wt)∧w'.cell? ⟨W8.heap.size,0,none⟩=some (.int .i64 a0.st)∧w'.cell? ⟨W8.heap.size,1,none⟩=some (.int .i64 a0.id)∧w'.cell? ⟨W8.heap.size,2,none⟩=some (.int .i64 a0.req)∧w'.cell? ⟨W8.heap.size,3,none⟩=some (.slice B1 y1 e1)∧w'.cell? ⟨W8.heap.size,4,none⟩=some (.int .i64 a0.cnt)∧w'.cell? ⟨W8.heap.size,5,none⟩=some (.int .i64 a0.tim)∧w'.cell? ⟨W8.heap.size,6,none⟩=some (.int .i64 a0.nak)∧w'.cell? ⟨g,o,none⟩=some (.int .i64 ec)∧w'.cell? ⟨g,o+1,none⟩=some (.int .i64 ei)∧w'.cell? ⟨g,o+2,none⟩=some (.slice ae xd.length ce)) (first|(go_keep;done)|(go_simp;done)|(simp[go_sem];done)) (((go_at_call 19;go_must (refine(pack_v ⟨R1,mc,mt,mf,wt⟩ Ar m cr a0 (.slice B1 y1 e1) ⟨ec,ei,xd⟩ ae xd.length ce 1 _ wr.heap.size (by(first|assumption|(simp only[size_ext,grow];omega)|(simp[size_ext,grow];omega)|(simp[size_ext,grow];done))) (by exact HRw.out.keep (by exact bel)) HRM.out hm20 HIS.out (by exact HOV.out.keep (by exact bel)) (by exact HAT.out.keep (by exact bel)) rfl hec hdl).mono ?_);rw[HPACK.out];unfold PackP auV;dsimp only;rintro x w9 ⟨va,vo,vd,rfl,hb9,hO9,hP9,-⟩;obtain⟨Av9,nv9,cv9,rfl⟩:=hO9.form;obtain⟨Ao9,co9,rfl⟩:=pks_form hP9;obtain⟨xs9,d9,rfl⟩:=ext_of hb9;have HO9:=hid hO9;have HP9:=hid hP9;clear hb9 hO9 hP9;have lg9:wr.heap.size<grow (wr.heap.size+1) xs9:=(by simp only[grow];omega);have nT9: ¬W8.heap.size=grow wr.heap.size xs9:=(by simp only[grow];omega);have nX9: ¬w.heap.size=grow wr.heap.size xs9:=(by simp only[grow];omega))))
        all_goals
         go_wp2_with fail
         go_meet
         refine⟨_,_,Av9,Ao9,nv9,cv9,_,co9,rfl,rfl,rfl,?_,?_,?_,?_⟩
         ·unfold auC
          first
           |(with_reducible refine heap_alloc_at _ _ _ ?_;(first|(simp[size_ext,grow];done)|(simp[size_ext,grow];omega)))
           |(with_reducible refine(heap_ext _ _ _ _ ?_).trans (heap_alloc_at _ _ _ ?_)<;>(first|(simp[size_ext,grow];done)|(simp[size_ext,grow];omega)))
         ·first
           |(with_reducible refine Below.alloc (below_ext (Below.refl _ _) ?_ _ _) ?_ _<;>(first|assumption|(simp only[size_ext,grow];omega)|(simp[size_ext,grow];omega)|(simp[size_ext,grow];done)))
           |(with_reducible refine below_ext (Below.alloc (Below.refl _ _) ?_ _) ?_ _ _<;>(first|assumption|(simp only[size_ext,grow];omega)|(simp[size_ext,grow];omega)|(simp[size_ext,grow];done)))
         ·have h5:=HO9.out
          first
           |(with_reducible refine⟨_,o_ord1 h5⟩)
           |(with_reducible refine⟨_,o_ord2 h5 ?_⟩;simp)
         ·have h5:=HP9.out
          first
           |(with_reducible refine⟨_,p_ord1 h5⟩)
           |(with_reducible refine⟨_,p_ord2 h5 ?_⟩;simp)
       case rest=>
        obtain⟨P9,W9,Av,Ao9,nv,cv,no9,co9,rfl,rfl,rfl,hrow,hb9,ho9,hp9⟩:=hcut
        have HM9:=hid (HM.out.below hb9)
        have HO9:=hid ho9
        have HP9:=hid hp9
        have HROW:=hid hrow
        clear q0 q1 q2 q3 q4 s0 s1 s2 s3 s4 s5 s6 x0 x1 x2 hb9 ho9 hp9
        obtain⟨t0,t1,t2,t3,t4,t5,t6⟩:=cells7 hrow
        obtain⟨s0,s1,s2,s3,s4,s5,s6⟩:=cells7 HM9.out.ra
        have fs:=frees HM9.out.ra
        clear hrow
        go_upto_region 16 with(fail)
        refine wp_w (fun W=>Meet w W (w.heap.size) (w.heap.size+1) W8.heap.size W10.heap.size #[.slice Ar m cr,.int .i64 mc,.int .i64 mt,.int .i64 mf,.int .i64 wt] #[.slice As m2 cd,.int .i64 mc2,.int .i64 mt2,.int .i64 mf2,.int .i64 wt2] a1 (.slice Av nv cv) (mAu ⟨D1,mc2,mt2,mf2,wt2⟩ M q) (.slice B2 y2 e2) (some ⟨g,o,none⟩) n1 c1 (⟨ec,ei,xd,ae,ce⟩::rest) A2 n2 c2 Q2∧ ∃z,PksO W z (.slice Ao9 no9 co9) ou) ⟨by exact HM9.out.storeA HO9.out,by obtain⟨z,h⟩:=HP9.out;exact⟨z,h.other (grown7 _ _ a1 (.slice Av nv cv)) HM9.out.ra (by decide) (by decide)⟩⟩ ?_
        clear s0 s1 s2 s3 s4 s5 s6 t0 t1 t2 t3 t4 t5 t6 fs
        rintro W10x ⟨hm,z9,Po,hPo,hpo⟩
        have HM10:=hid hm
        have hsx:=hm.bel.size
        have hle:=hm.t1.le
        have HTO:=hid (show Tl W10x 0 Ao9 no9 co9 Po from Tl.of_own hPo (Nat.zero_le _))
        have HPO:=hid hpo
        have hno9:no9≤1:=by have h:=HTO.out.len;have h2:=HLEN.out;rw[←hpo,List.length_map] at h2;omega
        clear hm hPo hpo
        have hi1:(1:Int)≤(n1:Int):=by omega
        have hi2:(n1:Int)≤(c1:Int):=by omega
        have hwn:IntKind.i64.wrap ((n1:Int)-1)=((n1-1:Nat):Int):=by rw[IntWalk.i64_in _ (by omega)];omega
        go_wp2_with (at_builtin;go_loud (refine wpList_tl rfl (.tmp 155) (.tmp 156) rfl HM10.out.t2 rfl (by omega) (by omega) HTO.out rfl hno9 ?_);intro A9 c9 w11 ht11 hg11 hb11;have HM11:=hid (HM10.out.app ht11 hg11 hb11);clear ht11 hg11 hb11)
        ·skip
         refine⟨invM_intro (s20:=.slice A9 (n2+no9) c9) (s23:=.slice (some ⟨g,o,none⟩) (n1-1) 0) (s25:=.int .i64 ((kk:Int)+1)) ?_ (by kernel_rfl),by simp[intOf];omega⟩
         have HM12:=HM11.out
         rw[←HA1.out] at HM12
         have HM13:=HM12.pop1 (by assumption)
         exact⟨p+1,q,some ⟨g,o,none⟩,A9,Av,B2,n1-1,0,n2+no9,c9,nv,cv,y2,e2,rest,Q2++Po,rfl,rfl,congrArg (Value.int .i64) (by have:=HKK.out;omega),HOK2.out,HREST.out,by rw[List.map_append,HP2.out,HPO.out,HAPP.out],HM13⟩
        ·skip
         refine⟨invM_intro (s20:=.slice A9 (n2+no9) c9) (s23:=.slice (some ⟨g,o+3,none⟩) (n1-1) (c1-1)) (s25:=.int .i64 ((kk:Int)+1)) ?_ (by kernel_rfl),by simp[intOf];omega⟩
         have HM12:=HM11.out
         rw[←HA1.out] at HM12
         have HM13:=HM12.pop
         exact⟨p+1,q,some ⟨g,o+3,none⟩,A9,Av,B2,n1-1,c1-1,n2+no9,c9,nv,cv,y2,e2,rest,Q2++Po,rfl,rfl,congrArg (Value.int .i64) (by have:=HKK.out;omega),HOK2.out,HREST.out,by rw[List.map_append,HP2.out,HPO.out,HAPP.out],HM13⟩
end Go.Proofs.YthidhfkbfoejbaaGreat
