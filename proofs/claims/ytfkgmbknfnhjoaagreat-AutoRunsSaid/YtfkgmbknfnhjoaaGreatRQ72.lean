/- AutoRuns: its walk. -/
import Derived.Test.YtfkgmbknfnhjoaaGreatRQ71
import Derived.Test.YtfkgmbknfnhjoaaGreatRQ70
import Derived.Test.YtfkgmbknfnhjoaaGreatRQ46
import Derived.Test.YtfkgmbknfnhjoaaGreatRQH
import Derived.Deep.CutBlock
set_option maxHeartbeats 40000000
namespace Go.Proofs.YtfkgmbknfnhjoaaGreat
open Lib (hid)
open Go.RowKit
set_option linter.unusedSimpArgs false
set_option linter.unusedVariables false
set_option linter.ambiguousOpen false
open Ne (Rl Opt RulesAt areB)
open Fs (av hasB)
def RunsI (w:World) (T U:Nat) (cc:Array Value) (no:Nat) (tk i:Value) (wr:World):Prop:= ∃(k:Nat) (t:Int) (a:Au) (A1 A3:Option Addr) (n1 c1 n3 c3:Nat),k≤no∧k≤40∧i=.int .i64 k∧tk=.int .i64 t∧0≤t∧t≤255*(k:Int)∧isB a=true∧Two w wr T U cc a (.slice A1 n1 c1) a (.slice A3 n3 c3)
def frR (u:Nat→Value) (s2 s3 s9 s11 s12 s13:Value):Act:=⟨#[u 0,u 1,s2,s3,u 4,u 5,u 6,u 7,u 8,s9,u 10,s11,s12,s13,u 14,u 15,u 16,u 17,u 18,u 19,u 20,u 21,u 22,u 23,u 24,u 25,u 26,u 27,u 28,u 29,u 30,u 31,u 32,u 33,u 34,u 35,u 36,u 37,u 38,u 39,u 40,u 41,u 42,u 43,u 44,u 45,u 46,u 47,u 48,u 49,u 50,u 51,u 52,u 53,u 54,u 55,u 56,u 57,u 58,u 59,u 60,u 61,u 62,u 63,u 64,u 65,u 66,u 67,u 68,u 69,u 70,u 71,u 72,u 73,u 74,u 75,u 76,u 77,u 78,u 79,u 80,u 81,u 82,u 83,u 84,u 85,u 86,u 87,u 88,u 89,u 90,u 91,u 92,u 93,u 94,u 95,u 96,u 97,u 98,u 99,u 100,u 101,u 102,u 103,u 104,u 105,u 106,u 107,u 108,u 109,u 110,u 111,u 112,u 113,u 114,u 115,u 116,u 117,u 118,u 119,u 120,u 121,u 122,u 123,u 124,u 125,u 126,u 127,u 128,u 129,u 130,u 131,u 132,u 133,u 134,u 135,u 136,u 137,u 138,u 139,u 140,u 141,u 142,u 143,u 144,u 145,u 146,u 147,u 148,u 149,u 150,u 151,u 152,u 153,u 154,u 155,u 156,u 157,u 158,u 159,u 160,u 161,u 162,u 163,u 164,u 165,u 166,u 167,u 168,u 169,u 170,u 171,u 172,u 173,u 174,u 175,u 176,u 177,u 178,u 179,u 180,u 181,u 182,u 183,u 184,u 185,u 186,u 187,u 188,u 189,u 190,u 191,u 192,u 193,u 194,u 195,u 196,u 197,u 198,u 199,u 200,u 201,u 202,u 203,u 204,u 205],[]⟩
def InvR (w:World) (T U:Nat) (cc:Array Value) (no:Nat) (s2:Value) (a:Act) (W:World):Prop:= ∃(u:Nat→Value) (s12 s13:Value),RunsI w T U cc no s12 s13 W∧a=frR u s2 (.pointer (some ⟨w.heap.size,0,none⟩)) (.pointer (some ⟨T,0,none⟩)) (.pointer (some ⟨U,0,none⟩)) s12 s13
theorem invR_intro {w W:World} {T U no:Nat} {cc:Array Value} {s2 s12 s13:Value} {a:Act} (h:RunsI w T U cc no s12 s13 W) (ha:a=frR (fun n=>a.tmps.getD n undef) s2 (.pointer (some ⟨w.heap.size,0,none⟩)) (.pointer (some ⟨T,0,none⟩)) (.pointer (some ⟨U,0,none⟩)) s12 s13):InvR w T U cc no s2 a W:=⟨_,_,_,h,ha⟩
theorem pksr_form {w:World} {base:Nat} {v:Value} {out:List Pk} (h:PksR w base v out): ∃A c,v=.slice A out.length c:=by
 obtain⟨P,hP,-,he⟩:=h
 obtain⟨A,c,rfl,-,-⟩:=ownsRow_form hP
 exact⟨A,c,by rw[←he,List.length_map]⟩
theorem run_start {L:List Opt} (h:(Op.encR L).2=0):isB ⟨0,0,0,L,0,0,0⟩=true:=by
 refine isB_of ⟨⟨by simp,by simp⟩,⟨by simp,by simp⟩,⟨by simp,by simp⟩,⟨by simp,by simp⟩,⟨by simp,by simp⟩,h,by rfl⟩
set_option maxRecDepth 100000 in
theorem autoRuns_walk (Ar Aa Ao:Option Addr) (nr cr na ca no co:Nat) (R:List Rl) (mc mt mf wt:Int) (E:List Ent) (O:List OpR) (w:World) (hR:RulesAt w w.heap.size Ar R) (hnr:nr=R.length) (hcr:nr≤cr) (hlr:(nr:Int)≤9223372036854775807) (hE:OptsAt w w.heap.size Aa E) (hna:na=E.length) (hla:(na:Int)≤9223372036854775807) (hda: ∀e∈E,(e.d.length:Int)≤9223372036854775807) (hO:OpsAt w w.heap.size Ao O) (hno:no=O.length) (hlo:(no:Int)≤9223372036854775807):
  Calls Tryz.prog 3 #[.agg #[.slice Ar nr cr,.int .i64 mc,.int .i64 mt,.int .i64 mf,.int .i64 wt],.slice Aa na ca,.slice Ao no co] w fun x w'=>x=.returned (.bool true)∧Below w.heap.size w w':=by
 have HR:=hid hR
 have HE:=hid hE
 have HNA:=hid hna
 have HDA:=hid hda
 have HO:=hid hO
 have HNO:=hid hno
 obtain⟨m,hm⟩: ∃m,min nr 20=m:=⟨_,rfl⟩
 have HM:=hid hm
 have HRM:=hid (show m=(R.take 20).length by rw[List.length_take];omega)
 have hm20:m≤20:=by omega
 have hmcr:m≤cr:=by omega
 clear hR hE hna hda hm hnr hO hno
 go_enter Tryz.func3,Tryz.ntmps3
 go_upto_region 1 with(fail)
 refine wp_w (fun W=>W.heap[w.heap.size]? =some (.cells #[.slice Ar nr cr,.int .i64 mc,.int .i64 mt,.int .i64 mf,.int .i64 wt] 24 (0,0))∧Below w.heap.size w W) ⟨by exact hpa,by exact bel⟩ ?_
 rintro W1 ⟨g_c,hbw⟩
 have HB_W1:=hid hbw
 have hs_W1:=hbw.size
 clear hbw
 have l_c:=lt_blk g_c
 obtain⟨c_c0,c_c1,c_c2,c_c3,c_c4⟩:=cells5 g_c
 have f_c:=frees g_c
 have H_c:=hid g_c
 clear g_c
 have hz1:w.heap.size+1≤W1.heap.size:=by omega
 go_wp2_with fail
 refine(light_any Ar Aa none nr cr na ca 0 0 mc mt mf wt 0 0 0 0 0 0 0 0 E _ w.heap.size hs_W1 (HE.out.keep HB_W1.out) HNA.out hla HDA.out hcr hlr (Nat.le_refl _) (by omega)).mono ?_
 rw[HM.out]
 rintro x W2 ⟨A2,n2,c2,rfl,hb,ho,hn2⟩
 have g_c:=(hb.block _ l_c).trans H_c.out
 have HQ_W2:=hid hb
 have hq_W2:=hb.size
 have HB_W2:=hid (HB_W1.out.trans (HQ_W2.out.mono hs_W1))
 have hs_W2:w.heap.size≤W2.heap.size:=HB_W2.out.size
 clear l_c f_c H_c c_c0 c_c1 c_c2 c_c3 c_c4
 have l_c:=lt_blk g_c
 obtain⟨c_c0,c_c1,c_c2,c_c3,c_c4⟩:=cells5 g_c
 have f_c:=frees g_c
 have H_c:=hid g_c
 clear g_c
 have HO2:=hid ho
 have HN2:=hid hn2
 have hn70:n2≤70:=by have:=lit_len E;omega
 have HC2:=hid (show n2≤c2 by obtain⟨A5,c5,hv,hc,-⟩:=ownsRow_form ho;cases hv;exact hc)
 clear hb ho hn2
 go_upto_region 2 with(fail)
 refine wp_w (fun W=>W.heap[w.heap.size]? =some (.cells #[.slice Ar m cr,.int .i64 mc,.int .i64 mt,.int .i64 mf,.int .i64 wt] 24 (0,0))∧W.heap[W2.heap.size]? =some (.cells #[.int .i64 0,.int .i64 0,.int .i64 0,.slice A2 n2 c2,.int .i64 0,.int .i64 0,.int .i64 0] 29 (0,0))∧Below w.heap.size w W∧W.ownsRow (w.heap.size+1) 111 2 (.slice A2 n2 c2) n2 (cellsE (litE E))) ⟨(by with_reducible refine alloc_off (alloc_off ?_);exact rows5 (cs:=#[.slice Ar nr cr,.int .i64 mc,.int .i64 mt,.int .i64 mf,.int .i64 wt]) H_c.out rfl _ _ _ _ _),(by with_reducible refine alloc_off (heap_alloc_at _ _ _ ?_);simp),(by with_reducible refine Below.alloc (Below.alloc ?_ (by simp;omega) _) (by simp;omega) _;(iterate 5 (with_reducible refine Below.setCell ?_ (by first|omega|(dsimp only;omega)) _));exact HB_W2.out),(by refine own_base (own_keep HO2.out (fun k hk=>?_)) (by omega);have hle:=own_le HO2.out hk;have hlt:=own_lt HO2.out hk;with_reducible refine(Below.heap_alloc _ _ k (by simp;omega)).trans ?_;with_reducible refine(Below.heap_alloc _ _ k (by simp;omega)).trans ?_;(iterate 5 (with_reducible refine set_off ?_ (by omega)));rfl)⟩ ?_
 clear l_c f_c H_c c_c0 c_c1 c_c2 c_c3 c_c4
 rintro W3 ⟨g_c,g_f,hbw,ex0⟩
 have HB_W3:=hid hbw
 have hs_W3:=hbw.size
 clear hbw
 have l_c:=lt_blk g_c
 obtain⟨c_c0,c_c1,c_c2,c_c3,c_c4⟩:=cells5 g_c
 have f_c:=frees g_c
 have H_c:=hid g_c
 clear g_c
 have l_f:=lt_blk g_f
 obtain⟨c_f0,c_f1,c_f2,c_f3,c_f4,c_f5,c_f6⟩:=cells7 g_f
 have f_f:=frees g_f
 have H_f:=hid g_f
 clear g_f
 have HO3:=hid ex0
 clear ex0 HO2
 have HRW:=hid (rulesAt_take HR.out 20)
 have HE3:=hid (lit_at HE.out (Nat.le_refl _) HB_W3.out HO3.out)
 have HLD:=hid (lit_data E)
 generalize R.take 20=R1 at HRW HRM
 generalize litE E=F at HO3 HE3 HN2 HLD
 obtain⟨L,hL⟩: ∃L,F.map Ent.o=L:=⟨_,rfl⟩
 have HL:=hid hL
 clear hL HO3
 go_wp2_with fail
 refine(new_any A2 n2 c2 F L HL.out _ W3.heap.size (Nat.le_refl _) HE3.out HN2.out (by omega) (fun e he=>by have:=HLD.out e he;omega)).mono ?_
 obtain⟨⟨st,id,req,ask,cnt,tim,nak⟩,ha0⟩: ∃a,auNew L=a:=⟨_,rfl⟩
 obtain⟨e0,he0⟩: ∃e,errNew L=e:=⟨_,rfl⟩
 rw[ha0,he0]
 have HA0:=hid ha0
 have HE0:=hid he0
 clear ha0 he0
 rintro x W4 ⟨v,rfl,E4,A4,n4,c4,rfl,he,hn,hc,hb,ho⟩
 dsimp only at he ⊢
 clear l_f f_f H_f c_f0 c_f1 c_f2 c_f3 c_f4 c_f5 c_f6
 have g_c:=(hb.block _ l_c).trans H_c.out
 have HQ_W4:=hid hb
 have hq_W4:=hb.size
 have HB_W4:=hid (HB_W3.out.trans (HQ_W4.out.mono hs_W3))
 have hs_W4:w.heap.size≤W4.heap.size:=HB_W4.out.size
 clear l_c f_c H_c c_c0 c_c1 c_c2 c_c3 c_c4
 have l_c:=lt_blk g_c
 obtain⟨c_c0,c_c1,c_c2,c_c3,c_c4⟩:=cells5 g_c
 have f_c:=frees g_c
 have H_c:=hid g_c
 clear g_c
 have hz4:w.heap.size<W4.heap.size:=l_c
 have HO4:=hid (show OptsO W4 W3.heap.size (.slice A4 n4 c4) ask from ⟨E4,ho,he⟩)
 clear hb ho he hn
 go_upto_region 3 with(fail)
 refine wp_w (fun W=>W.heap[w.heap.size]? =some (.cells #[.slice Ar m cr,.int .i64 mc,.int .i64 mt,.int .i64 mf,.int .i64 wt] 24 (0,0))∧W.heap[W4.heap.size]? =some (.cells #[.int .i64 st,.int .i64 id,.int .i64 req,.slice A4 n4 c4,.int .i64 cnt,.int .i64 tim,.int .i64 nak] 29 (0,0))∧Below w.heap.size w W∧Below W4.heap.size W4 W) ⟨(alloc_off H_c.out),(heap_alloc_new _ _),(Below.alloc HB_W4.out hs_W4 _),(Below.alloc (Below.refl _ _) (Nat.le_refl _) _)⟩ ?_
 clear l_c f_c H_c c_c0 c_c1 c_c2 c_c3 c_c4
 rintro W5 ⟨g_c,g_a,hbw,ex0⟩
 have HB_W5:=hid hbw
 have hs_W5:=hbw.size
 clear hbw
 have l_c:=lt_blk g_c
 obtain⟨c_c0,c_c1,c_c2,c_c3,c_c4⟩:=cells5 g_c
 have f_c:=frees g_c
 have H_c:=hid g_c
 clear g_c
 have l_a:=lt_blk g_a
 obtain⟨c_a0,c_a1,c_a2,c_a3,c_a4,c_a5,c_a6⟩:=cells7 g_a
 have f_a:=frees g_a
 have H_a:=hid g_a
 clear g_a
 have HQ5:=hid ex0
 clear ex0
 go_wp2_with fail
 refine(awake_any _).mono ?_
 rintro x W6 ⟨rfl,hb⟩
 have g_c:=(hb.block _ l_c).trans H_c.out
 have g_a:=(hb.block _ l_a).trans H_a.out
 have HQ_W6:=hid hb
 have hq_W6:=hb.size
 have HB_W6:=hid (HB_W5.out.trans (HQ_W6.out.mono hs_W5))
 have hs_W6:w.heap.size≤W6.heap.size:=HB_W6.out.size
 clear l_c f_c H_c c_c0 c_c1 c_c2 c_c3 c_c4 l_a f_a H_a c_a0 c_a1 c_a2 c_a3 c_a4 c_a5 c_a6
 have l_c:=lt_blk g_c
 obtain⟨c_c0,c_c1,c_c2,c_c3,c_c4⟩:=cells5 g_c
 have f_c:=frees g_c
 have H_c:=hid g_c
 clear g_c
 have l_a:=lt_blk g_a
 obtain⟨c_a0,c_a1,c_a2,c_a3,c_a4,c_a5,c_a6⟩:=cells7 g_a
 have f_a:=frees g_a
 have H_a:=hid g_a
 clear g_a
 have HO6:=hid ((HO4.out.below HQ5.out).below hb)
 clear hb HO4
 by_cases hz:(Op.encR L).2=0
 ·skip
  obtain rfl:e0=0:=by rw[←HE0.out];unfold errNew;rw[if_pos hz]
  have hau:=HA0.out
  unfold auNew at hau
  rw[if_pos hz] at hau
  cases hau
  have HIS0:=hid (run_start hz)
  clear hz
  obtain⟨cb,hcb⟩: ∃b,confB ⟨R1,mc,mt,mf,wt⟩=b:=⟨_,rfl⟩
  have HCB:=hid hcb
  clear hcb
  go_wp2_with fail
  refine(conf_ref Ar m cr R1 mc mt mf wt _ w.heap.size hs_W6 (HRW.out.keep HB_W6.out) HRM.out (by omega)).mono ?_
  rw[HCB.out]
  rintro x W7 ⟨rfl,hb⟩
  have g_c:=(hb.block _ l_c).trans H_c.out
  have g_a:=(hb.block _ l_a).trans H_a.out
  have HQ_W7:=hid hb
  have hq_W7:=hb.size
  have HB_W7:=hid (HB_W6.out.trans (HQ_W7.out.mono hs_W6))
  have hs_W7:w.heap.size≤W7.heap.size:=HB_W7.out.size
  clear l_c f_c H_c c_c0 c_c1 c_c2 c_c3 c_c4 l_a f_a H_a c_a0 c_a1 c_a2 c_a3 c_a4 c_a5 c_a6
  have l_c:=lt_blk g_c
  obtain⟨c_c0,c_c1,c_c2,c_c3,c_c4⟩:=cells5 g_c
  have f_c:=frees g_c
  have H_c:=hid g_c
  clear g_c
  have l_a:=lt_blk g_a
  obtain⟨c_a0,c_a1,c_a2,c_a3,c_a4,c_a5,c_a6⟩:=cells7 g_a
  have f_a:=frees g_a
  have H_a:=hid g_a
  clear g_a
  have HO7:=hid (HO6.out.below hb)
  clear hb
  cases cb
  ·skip
   go_wp2_with fail
   go_ret
   exact⟨rfl,HB_W7.out⟩
  ·skip
   go_upto_region 8 with(fail)
   refine wp_w (fun W=>Two w W W4.heap.size W7.heap.size #[.slice Ar m cr,.int .i64 mc,.int .i64 mt,.int .i64 mf,.int .i64 wt] ⟨0,0,0,L,0,0,0⟩ (.slice A4 n4 c4) ⟨0,0,0,L,0,0,0⟩ (.slice A4 n4 c4)) ?_ ?_
   ·have ha:=HO7.out.below (Below.alloc (Below.refl _ W7) (Nat.le_refl _) (.cells (auC ⟨0,0,0,L,0,0,0⟩ (.slice A4 n4 c4)) 29))
    exact⟨alloc_off H_c.out,alloc_off H_a.out,heap_alloc_new _ _,⟨_,ha⟩,⟨_,ha.r⟩,Below.alloc HB_W7.out hs_W7 _,hz4,l_a⟩
   clear l_c f_c H_c c_c0 c_c1 c_c2 c_c3 c_c4 l_a f_a H_a c_a0 c_a1 c_a2 c_a3 c_a4 c_a5 c_a6
   rintro W8 htw
   have HT8:=hid htw
   clear htw
   go_wp2_with fail
   refine wp_loop (InvR w W4.heap.size W7.heap.size #[.slice Ar m cr,.int .i64 mc,.int .i64 mt,.int .i64 mf,.int .i64 wt] no (.slice Ao no co)) (fun a _=>no-(intOf (a.tmps.getD 13 undef)).toNat) (invR_intro ⟨0,0,_,A4,A4,n4,c4,n4,c4,Nat.zero_le _,by omega,rfl,rfl,by omega,by omega,HIS0.out,HT8.out⟩ (by as_aux_lemma=>kernel_rfl)) ?_
   rintro a0 wr ⟨u,s12,s13,hrel,rfl⟩
   unfold frR
   obtain⟨k,t,a,A1,A3,n1,c1,n3,c3,hk,hk4,rfl,rfl,ht0,ht1,his,htw⟩:=hrel
   have HIS:=hid his
   have HT:=hid htw
   have lU:=htw.lt
   have ltT:=htw.t
   have ltU:=htw.u
   have HBR:=hid htw.bel
   have hsr:=htw.bel.size
   clear his htw
   by_cases hlt:k<no
   ·skip
    by_cases h40:k<40
    ·skip
     have HK:=hid (show k<O.length by have:=HNO.out;omega)
     obtain⟨b,ob,rfl,hbB,hop⟩:=(HO.out.keep HBR.out).get HK.out
     obtain⟨⟨d,e,kc,ki,ai,ni,ci,li,lt⟩,hx0⟩: ∃x,O[k]'HK.out=x:=⟨_,rfl⟩
     rw[hx0] at hop
     have hxo:=hx0
     clear hx0
     obtain⟨b2,o2,he2,-,hopw⟩:=HO.out.get HK.out
     cases he2
     rw[hxo] at hopw
     have P1W:=hid hopw.c1
     have hinw:=hopw.inn.take 1500
     rw[←List.map_take] at hinw
     clear hopw hxo
     simp only at P1W hinw
     have HINW:=hid hinw
     clear hinw
     obtain⟨p0,p1,p2,p3,p4,p5,pin,pn,pc,pl,pd,pl1⟩:=hop
     simp only at p0 p1 p2 p3 p4 p5 pin pn pc pl pd pl1
     obtain⟨mi,hmi⟩: ∃m,min ni 1500=m:=⟨_,rfl⟩
     have HIN:=hid (pin.take 1500)
     rw[←List.map_take] at HIN
     have HMI:=hid (show mi=(li.take 1500).length by rw[List.length_take];omega)
     have hmic:mi≤ci:=by omega
     have hmi15:mi≤1500:=by omega
     generalize li.take 1500=ld at HIN HMI HINW
     have HMIN:=hid hmi
     clear pin pn hmi
     have kk0:(0:Int)≤(k:Int):=by omega
     have kk1:(k:Int)<(no:Int):=by omega
     have hbr:b<wr.heap.size:=by omega
     have kk4:(k:Int)<40:=by omega
     have hwl:IntKind.i64.wrap (lt:Int)=(lt:Int):=IntWalk.i64_in _ (by omega)
     have hws:IntKind.i64.wrap (t+(lt:Int))=t+(lt:Int):=IntWalk.i64_in _ (by omega)
     go_upto_region 13 with(fail)
     obtain⟨t2,ht2⟩: ∃x,t+(lt:Int)=x:=⟨_,rfl⟩
     rw[ht2]
     have ht20:0≤t2:=by omega
     have ht21:t2≤255*((k:Int)+1):=by omega
     clear hwl hws ht2 ht0 ht1
     obtain⟨A5,n5,c5,E5,hv5,hE5,hn5,hc5,he5⟩:=HT.out.v1s
     cases hv5
     have HE5:=hid hE5
     have HN5:=hid hn5
     have HS5:=hid (show n1≤64∧ ∀x∈E5,x.d.length≤253 from by have hs:=is_small HIS.out;rw[←he5] at hs;exact⟨by have:=hs.1;rw[List.length_map] at this;omega,fun x hx=>hs.2 _ (List.mem_map_of_mem hx)⟩)
     have hn64:=HS5.out.1
     clear hE5 hn5 he5
     obtain⟨q0,q1,q2,q3,q4⟩:=cells5 HT.out.conf
     obtain⟨s0,s1,s2,s3,s4,s5,s6⟩:=cells7 HT.out.r1
     obtain⟨u0,u1,u2,u3,u4,u5,u6⟩:=cells7 HT.out.r2
     go_cut [16] (fun s16 wx=> ∃(P:Nat) (W9:World),W9=wx∧s16=.pointer (some ⟨P,0,none⟩)∧Below wr.heap.size wr W9∧wr.heap.size≤P∧W9.heap[P]? =some (.cells #[.int .i64 kc,.int .i64 ki,.slice ai mi ci] 32 (0,0)))
     case first=>
      as_aux_lemma=>
       have HSR:=hid (show∀w':World,Below wr.heap.size wr w'→(w'.cell? ⟨w.heap.size,0,none⟩=some (.slice Ar m cr)∧w'.cell? ⟨w.heap.size,1,none⟩=some (.int .i64 mc)∧w'.cell? ⟨w.heap.size,2,none⟩=some (.int .i64 mt)∧w'.cell? ⟨w.heap.size,3,none⟩=some (.int .i64 mf)∧w'.cell? ⟨w.heap.size,4,none⟩=some (.int .i64 wt)∧w'.cell? ⟨W4.heap.size,0,none⟩=some (.int .i64 a.st)∧w'.cell? ⟨W4.heap.size,1,none⟩=some (.int .i64 a.id)∧w'.cell? ⟨W4.heap.size,2,none⟩=some (.int .i64 a.req)∧w'.cell? ⟨W4.heap.size,3,none⟩=some (.slice A1 n1 c1)∧w'.cell? ⟨W4.heap.size,4,none⟩=some (.int .i64 a.cnt)∧w'.cell? ⟨W4.heap.size,5,none⟩=some (.int .i64 a.tim)∧w'.cell? ⟨W4.heap.size,6,none⟩=some (.int .i64 a.nak)∧w'.cell? ⟨b,ob+k*6+2,none⟩=some (.int .i64 kc)∧w'.cell? ⟨b,ob+k*6+2+1,none⟩=some (.int .i64 ki)∧w'.cell? ⟨b,ob+k*6+2+2,none⟩=some (.slice ai ni ci)) from fun w' hb=>⟨(hb.cell (p:=⟨_,_,none⟩) (show w.heap.size<wr.heap.size by omega)).trans q0,(hb.cell (p:=⟨_,_,none⟩) (show w.heap.size<wr.heap.size by omega)).trans q1,(hb.cell (p:=⟨_,_,none⟩) (show w.heap.size<wr.heap.size by omega)).trans q2,(hb.cell (p:=⟨_,_,none⟩) (show w.heap.size<wr.heap.size by omega)).trans q3,(hb.cell (p:=⟨_,_,none⟩) (show w.heap.size<wr.heap.size by omega)).trans q4,(hb.cell (p:=⟨_,_,none⟩) (show W4.heap.size<wr.heap.size by omega)).trans s0,(hb.cell (p:=⟨_,_,none⟩) (show W4.heap.size<wr.heap.size by omega)).trans s1,(hb.cell (p:=⟨_,_,none⟩) (show W4.heap.size<wr.heap.size by omega)).trans s2,(hb.cell (p:=⟨_,_,none⟩) (show W4.heap.size<wr.heap.size by omega)).trans s3,(hb.cell (p:=⟨_,_,none⟩) (show W4.heap.size<wr.heap.size by omega)).trans s4,(hb.cell (p:=⟨_,_,none⟩) (show W4.heap.size<wr.heap.size by omega)).trans s5,(hb.cell (p:=⟨_,_,none⟩) (show W4.heap.size<wr.heap.size by omega)).trans s6,(hb.cell (p:=⟨_,_,none⟩) hbr).trans p2,(hb.cell (p:=⟨_,_,none⟩) hbr).trans p3,(hb.cell (p:=⟨_,_,none⟩) hbr).trans p4⟩)
       go_region_held3 (fun w'=>w'.cell? ⟨w.heap.size,0,none⟩=some (.slice Ar m cr)∧w'.cell? ⟨w.heap.size,1,none⟩=some (.int .i64 mc)∧w'.cell? ⟨w.heap.size,2,none⟩=some (.int .i64 mt)∧w'.cell? ⟨w.heap.size,3,none⟩=some (.int .i64 mf)∧w'.cell? ⟨w.heap.size,4,none⟩=some (.int .i64 wt)∧w'.cell? ⟨W4.heap.size,0,none⟩=some (.int .i64 a.st)∧w'.cell? ⟨W4.heap.size,1,none⟩=some (.int .i64 a.id)∧w'.cell? ⟨W4.heap.size,2,none⟩=some (.int .i64 a.req)∧w'.cell? ⟨W4.heap.size,3,none⟩=some (.slice A1 n1 c1)∧w'.cell? ⟨W4.heap.size,4,none⟩=some (.int .i64 a.cnt)∧w'.cell? ⟨W4.heap.size,5,none⟩=some (.int .i64 a.tim)∧w'.cell? ⟨W4.heap.size,6,none⟩=some (.int .i64 a.nak)∧w'.cell? ⟨b,ob+k*6+2,none⟩=some (.int .i64 kc)∧w'.cell? ⟨b,ob+k*6+2+1,none⟩=some (.int .i64 ki)∧w'.cell? ⟨b,ob+k*6+2+2,none⟩=some (.slice ai ni ci)) (exact HSR.out _ (by exact bel)) (((go_at_call 10;go_must (refine(light_any Ar A1 ai m cr n1 c1 ni ci mc mt mf wt a.st a.id a.req a.cnt a.tim a.nak kc ki E5 _ wr.heap.size (by(first|assumption|(simp only[size_ext,grow];omega)|(simp[size_ext,grow];omega)|(simp[size_ext,grow];done))) (by exact HE5.out.keep (by exact bel)) HN5.out (by omega) (fun x hx=>by have:=HS5.out.2 x hx;omega) hmcr (by omega) pc pl).mono ?_);rw[HMIN.out];rintro x w9 ⟨A9,n9,c9,rfl,hb9,-,-⟩;obtain⟨xs9,d9,rfl⟩:=ext_of hb9;clear hb9)))
       all_goals
        go_wp2_with fail
        go_meet
        refine⟨_,_,rfl,rfl,?_,?_,?_⟩
        ·exact bel
        ·first|exact Nat.le_refl _|omega|(simp only[size_ext,grow];omega)|(simp[size_ext,grow];omega)|(simp[size_ext,grow];done)
        ·repeat(first|(with_reducible refine heap_alloc_at _ _ _ ?_;((first|(simp[size_ext,grow];done)|(simp[size_ext,grow];omega))))|(with_reducible refine(heap_ext _ _ _ _ ?_).trans ?_;(focus ((first|(simp[size_ext,grow];done)|(simp[size_ext,grow];omega)))))|(with_reducible refine(heap_alloc_past _ _ _ ?_).trans ?_;(focus ((first|(simp[size_ext,grow];done)|(simp[size_ext,grow];omega))))))
     case rest=>
      obtain⟨P,W9,rfl,rfl,hb9,hPl,hrow⟩:=hcut
      have HT9:=hid (HT.out.below hb9)
      have HROW9:=hid hrow
      have lP:=lt_blk hrow
      have hs9:=hb9.size
      have HB9:=hid hb9
      have HUP:=hid (show W7.heap.size<P by omega)
      have HI9:=hid ((HIN.out.keep (hb9.mono hsr)).more (show w.heap.size≤W9.heap.size by omega))
      have HR9:=hid ((HRW.out.keep HT9.out.bel).more (show w.heap.size≤W9.heap.size by omega))
      replace p0:=(hb9.cell (p:=⟨b,_,none⟩) hbr).trans p0
      replace p1:=(hb9.cell (p:=⟨b,_,none⟩) hbr).trans p1
      clear q0 q1 q2 q3 q4 s0 s1 s2 s3 s4 s5 s6 u0 u1 u2 u3 u4 u5 u6 p2 p3 p4 p5 hb9
      obtain⟨y0,y1,y2⟩:=cells3 hrow
      have fy:=frees hrow
      clear hrow
      obtain⟨q0,q1,q2,q3,q4⟩:=cells5 HT9.out.conf
      obtain⟨s0,s1,s2,s3,s4,s5,s6⟩:=cells7 HT9.out.r1
      obtain⟨u0,u1,u2,u3,u4,u5,u6⟩:=cells7 HT9.out.r2
      have fs:=frees HT9.out.r1
      have fu:=frees HT9.out.r2
      obtain⟨dq,hdq⟩: ∃r,d%4=r:=⟨_,rfl⟩
      have hdq4:dq<4:=by omega
      have hrm:(d:Int).tmod 4=(dq:Int):=by rw[Int.tmod_eq_emod_of_nonneg (by omega)];omega
      have hem:(d:Int)%4=(dq:Int):=by omega
      have hwr:IntKind.u8.wrap (dq:Int)=(dq:Int):=IntWalk.u8_in _ (by omega)
      have HCF:=hid HCB.out
      go_upto_region 16 with(fail)
      have HV9:=hid HT9.out.v1s
      have HU9:=hid HT9.out.v2s
      go_upto_block 2 with(fail)
      go_cut [17,18,19,20] (fun s17 s18 s19 s20 wx=> ∃(Wn:World) (a9:Au) (B1 B3:Option Addr) (m1 e1 m3 e3:Nat) (ou:List Pk) (ac:List Int),Wn=wx∧PksV Wn Wn.heap.size s17 ou∧PksV Wn Wn.heap.size s18 ou∧ActsV Wn Wn.heap.size s19 ac∧ActsV Wn Wn.heap.size s20 ac∧ou.length≤1000∧ac.length≤1000∧isB a9=true∧Two w Wn W4.heap.size W7.heap.size #[.slice Ar m cr,.int .i64 mc,.int .i64 mt,.int .i64 mf,.int .i64 wt] a9 (.slice B1 m1 e1) a9 (.slice B3 m3 e3))
      case first=>
       by_cases hd0:dq=0
       ·subst hd0
        skip
        obtain⟨r,hr⟩: ∃r,doO ⟨R1,mc,mt,mf,wt⟩ a e ⟨kc,ki,ld⟩ ⟨kc,ki,ld⟩ t2=r:=⟨_,rfl⟩
        have HRR:=hid hr
        have HLEN:=hid (show r.2.1.length≤13∧r.2.2.length≤3 by rw[←hr];exact doO_lens ..)
        have HISR:=hid (show isB r.1=true by rw[←hr];exact doO_is HIS.out _ _ _)
        clear hr
        go_upto_region 23 with(fail)
        refine wp_region_c 10 (fun w'=>w'.cell? ⟨w.heap.size,0,none⟩=some (.slice Ar m cr)∧w'.cell? ⟨w.heap.size,1,none⟩=some (.int .i64 mc)∧w'.cell? ⟨w.heap.size,2,none⟩=some (.int .i64 mt)∧w'.cell? ⟨w.heap.size,3,none⟩=some (.int .i64 mf)∧w'.cell? ⟨w.heap.size,4,none⟩=some (.int .i64 wt)∧w'.cell? ⟨W4.heap.size,0,none⟩=some (.int .i64 a.st)∧w'.cell? ⟨W4.heap.size,1,none⟩=some (.int .i64 a.id)∧w'.cell? ⟨W4.heap.size,2,none⟩=some (.int .i64 a.req)∧w'.cell? ⟨W4.heap.size,3,none⟩=some (.slice A1 n1 c1)∧w'.cell? ⟨W4.heap.size,4,none⟩=some (.int .i64 a.cnt)∧w'.cell? ⟨W4.heap.size,5,none⟩=some (.int .i64 a.tim)∧w'.cell? ⟨W4.heap.size,6,none⟩=some (.int .i64 a.nak)∧w'.cell? ⟨b,ob+k*6+1,none⟩=some (.int .i64 e)∧w'.cell? ⟨P,0,none⟩=some (.int .i64 kc)∧w'.cell? ⟨P,1,none⟩=some (.int .i64 ki)∧w'.cell? ⟨P,2,none⟩=some (.slice ai mi ci)) (by kernel_rfl) (by(try dsimp only);(first|(go_keep;done)|(go_simp;done)|(simp[go_sem];done))) (fun hHeld=>?_)
        refine tkW 2 (v:=?_) (sc_of hHeld) ?_ ?_
        rotate_left
        ·(intro w;go_simp;try with_reducible rfl)
        try simp only[Act.put,List.setIfInBounds_toArray,List.set_cons_zero,List.set_cons_succ]
        refine tkW 3 (v:=?_) (sc_of hHeld) ?_ ?_
        rotate_left
        ·(intro w;go_simp;try with_reducible rfl)
        try simp only[Act.put,List.setIfInBounds_toArray,List.set_cons_zero,List.set_cons_succ]
        refine tkW 9 (v:=?_) (sc_of hHeld) ?_ ?_
        rotate_left
        ·(intro w;go_simp;try with_reducible rfl)
        try simp only[Act.put,List.setIfInBounds_toArray,List.set_cons_zero,List.set_cons_succ]
        refine tkL 0 (v:=?_) hHeld ?_ ?_
        rotate_left
        ·(intro w h;(try dsimp only at h);go_simp;try with_reducible rfl)
        try simp only[Act.put,List.setIfInBounds_toArray,List.set_cons_zero,List.set_cons_succ]
        refine tkL 1 (v:=?_) hHeld ?_ ?_
        rotate_left
        ·(intro w h;(try dsimp only at h);go_simp;try with_reducible rfl)
        try simp only[Act.put,List.setIfInBounds_toArray,List.set_cons_zero,List.set_cons_succ]
        refine tkW 4 (v:=?_) (sc_of hHeld) ?_ ?_
        rotate_left
        ·(intro w;go_simp;try with_reducible rfl)
        try simp only[Act.put,List.setIfInBounds_toArray,List.set_cons_zero,List.set_cons_succ]
        refine tkW 5 (v:=?_) (sc_of hHeld) ?_ ?_
        rotate_left
        ·(intro w;go_simp;try with_reducible rfl)
        try simp only[Act.put,List.setIfInBounds_toArray,List.set_cons_zero,List.set_cons_succ]
        refine tkL 6 (v:=?_) hHeld ?_ ?_
        rotate_left
        ·(intro w h;(try dsimp only at h);go_simp;try with_reducible rfl)
        try simp only[Act.put,List.setIfInBounds_toArray,List.set_cons_zero,List.set_cons_succ]
        refine tkL 7 (v:=?_) hHeld ?_ ?_
        rotate_left
        ·(intro w h;(try dsimp only at h);go_simp;try with_reducible rfl)
        try simp only[Act.put,List.setIfInBounds_toArray,List.set_cons_zero,List.set_cons_succ]
        refine tkL 8 (v:=?_) hHeld ?_ ?_
        rotate_left
        ·(intro w h;(try dsimp only at h);go_simp;try with_reducible rfl)
        try simp only[Act.put,List.setIfInBounds_toArray,List.set_cons_zero,List.set_cons_succ]
        refine stepP (i:=10) (o:=_) rfl (by as_aux_lemma=>kernel_rfl) (by as_aux_lemma=>kernel_rfl) (fun K hK=>?_)
        (go_simp;go_at_call 14;go_must (refine(do_v ⟨R1,mc,mt,mf,wt⟩ Ar m cr a (.slice A1 n1 c1) ⟨kc,ki,ld⟩ ai mi ci e t2 _ W9.heap.size (by first|exact Nat.le_refl _|(simp;done)) (by exact HR9.out.keep (by exact bel)) HRM.out hm20 HIS.out (by exact HV9.out.keep (by exact bel)) (by exact HI9.out.keep (by exact bel)) HMI.out hmic (by omega)).mono ?_);rw[HRR.out];unfold DoP auV;(try dsimp only);rintro x w3 ⟨va,vo,vd,rfl,hb3,hO,hP,hA⟩;obtain⟨B1,m1,e1,rfl⟩:=hO.form;obtain⟨Ao1,co1,rfl⟩:=pks_form hP;obtain⟨Ad1,cd1,rfl⟩:=acts_form hA;have HB3:=hid hb3;have HO3:=hid hO;have HP3:=hid hP;have HA3:=hid hA;have hr3:=(hb3.block _ (lt_blk HT9.out.r1)).trans HT9.out.r1;clear hb3 hO hP hA;obtain⟨y0,y1,y2,y3,y4,y5,y6⟩:=cells7 hr3;have fy3:=frees hr3;have ly3:=lt_blk hr3;clear hr3)
        refine hK.out _ _ ?_
        clear hK K
        try simp only[Act.put,List.setIfInBounds_toArray,List.set_cons_zero,List.set_cons_succ]
        refine tkW 11 (v:=?_) (sc_past (by kernel_rfl)) ?_ ?_
        rotate_left
        ·(intro w;go_simp;try with_reducible rfl)
        try simp only[Act.put,List.setIfInBounds_toArray,List.set_cons_zero,List.set_cons_succ]
        refine tkW 12 (v:=?_) (sc_past (by kernel_rfl)) ?_ ?_
        rotate_left
        ·(intro w;go_simp;try with_reducible rfl)
        try simp only[Act.put,List.setIfInBounds_toArray,List.set_cons_zero,List.set_cons_succ]
        refine tkW 13 (v:=?_) (sc_past (by kernel_rfl)) ?_ ?_
        rotate_left
        ·(intro w;go_simp;try with_reducible rfl)
        try simp only[Act.put,List.setIfInBounds_toArray,List.set_cons_zero,List.set_cons_succ]
        refine tkW 14 (v:=?_) (sc_past (by kernel_rfl)) ?_ ?_
        rotate_left
        ·(intro w;go_simp;try with_reducible rfl)
        try simp only[Act.put,List.setIfInBounds_toArray,List.set_cons_zero,List.set_cons_succ]
        refine stepP (i:=15) (o:=_) rfl (by as_aux_lemma=>kernel_rfl) (by as_aux_lemma=>kernel_rfl) (fun K hK=>?_)
        go_simp
        refine hK.out _ _ ?_
        clear hK K
        try simp only[Act.put,List.setIfInBounds_toArray,List.set_cons_zero,List.set_cons_succ]
        refine tkW 16 (v:=?_) (sc_past (by kernel_rfl)) ?_ ?_
        rotate_left
        ·(intro w;go_simp;try with_reducible rfl)
        try simp only[Act.put,List.setIfInBounds_toArray,List.set_cons_zero,List.set_cons_succ]
        refine tkW 17 (v:=?_) (sc_past (by kernel_rfl)) ?_ ?_
        rotate_left
        ·(intro w;go_simp;try with_reducible rfl)
        try simp only[Act.put,List.setIfInBounds_toArray,List.set_cons_zero,List.set_cons_succ]
        try simp only[Act.put,List.getElem_toArray,List.getElem_cons_zero,List.getElem_cons_succ,List.setIfInBounds_toArray,List.set_cons_zero,List.set_cons_succ]
        refine doneC (by kernel_rfl) ?_ _
        generalize hWf:World.setCell _ _ _=W10
        clear y0 y1 y2 y3 y4 y5 y6 fy3 ly3 q0 q1 q2 q3 q4 p1 fs s0 s1 s2 s3 s4 s5 s6 fy u0 u1 u2 u3 u4 u5 u6 fu
        have hst:set7 w3 W4.heap.size r.1 (.slice B1 m1 e1)=W10:=hWf
        have h3:=Two.prog (W:=W9.drew) (a':=r.1) (HT9.out.below (Below.refl _ _).drew) HB3.out HO3.out HP3.out HA3.out HROW9.out
        rw[hst] at h3
        obtain⟨ht,hp,ha,hr,hz⟩:=h3
        have HT10:=hid ht
        have HP10:=hid hp
        have HA10:=hid ha
        have HROW10:=hid hr
        clear hst hWf ht hp ha hr hz HB3 HO3 HP3 HA3
        have hbl10:=HT10.out.bel
        have hs10:=hbl10.size
        have HR10:=hid ((HRW.out.keep hbl10).more (show w.heap.size≤W10.heap.size by omega))
        have HI10:=hid ((HINW.out.keep hbl10).more (show w.heap.size≤W10.heap.size by omega))
        have p1:=(hbl10.cell (p:=⟨b,_,none⟩) hbB).trans P1W.out
        have hbr10:b<W10.heap.size:=by omega
        have HV10:=hid HT10.out.v1s
        have HU10:=hid HT10.out.v2s
        have lP10:=lt_blk HROW10.out
        have lU10:=HT10.out.lt
        clear hbl10
        obtain⟨q0,q1,q2,q3,q4⟩:=cells5 HT10.out.conf
        obtain⟨u0,u1,u2,u3,u4,u5,u6⟩:=cells7 HT10.out.r2
        have fu:=frees HT10.out.r2
        obtain⟨y0,y1,y2⟩:=cells3 HROW10.out
        have fy:=frees HROW10.out
        go_upto_region 24 with(fail)
        refine wp_region_c 10 (fun w'=>w'.cell? ⟨w.heap.size,0,none⟩=some (.slice Ar m cr)∧w'.cell? ⟨w.heap.size,1,none⟩=some (.int .i64 mc)∧w'.cell? ⟨w.heap.size,2,none⟩=some (.int .i64 mt)∧w'.cell? ⟨w.heap.size,3,none⟩=some (.int .i64 mf)∧w'.cell? ⟨w.heap.size,4,none⟩=some (.int .i64 wt)∧w'.cell? ⟨W7.heap.size,0,none⟩=some (.int .i64 a.st)∧w'.cell? ⟨W7.heap.size,1,none⟩=some (.int .i64 a.id)∧w'.cell? ⟨W7.heap.size,2,none⟩=some (.int .i64 a.req)∧w'.cell? ⟨W7.heap.size,3,none⟩=some (.slice A3 n3 c3)∧w'.cell? ⟨W7.heap.size,4,none⟩=some (.int .i64 a.cnt)∧w'.cell? ⟨W7.heap.size,5,none⟩=some (.int .i64 a.tim)∧w'.cell? ⟨W7.heap.size,6,none⟩=some (.int .i64 a.nak)∧w'.cell? ⟨b,ob+k*6+1,none⟩=some (.int .i64 e)∧w'.cell? ⟨P,0,none⟩=some (.int .i64 kc)∧w'.cell? ⟨P,1,none⟩=some (.int .i64 ki)∧w'.cell? ⟨P,2,none⟩=some (.slice ai mi ci)) (by kernel_rfl) (by(try dsimp only);(first|(go_keep;done)|(go_simp;done)|(simp[go_sem];done))) (fun hHeld=>?_)
        refine tkW 2 (v:=?_) (sc_of hHeld) ?_ ?_
        rotate_left
        ·(intro w;go_simp;try with_reducible rfl)
        try simp only[Act.put,List.setIfInBounds_toArray,List.set_cons_zero,List.set_cons_succ]
        refine tkW 3 (v:=?_) (sc_of hHeld) ?_ ?_
        rotate_left
        ·(intro w;go_simp;try with_reducible rfl)
        try simp only[Act.put,List.setIfInBounds_toArray,List.set_cons_zero,List.set_cons_succ]
        refine tkW 9 (v:=?_) (sc_of hHeld) ?_ ?_
        rotate_left
        ·(intro w;go_simp;try with_reducible rfl)
        try simp only[Act.put,List.setIfInBounds_toArray,List.set_cons_zero,List.set_cons_succ]
        refine tkL 0 (v:=?_) hHeld ?_ ?_
        rotate_left
        ·(intro w h;(try dsimp only at h);go_simp;try with_reducible rfl)
        try simp only[Act.put,List.setIfInBounds_toArray,List.set_cons_zero,List.set_cons_succ]
        refine tkL 1 (v:=?_) hHeld ?_ ?_
        rotate_left
        ·(intro w h;(try dsimp only at h);go_simp;try with_reducible rfl)
        try simp only[Act.put,List.setIfInBounds_toArray,List.set_cons_zero,List.set_cons_succ]
        refine tkW 4 (v:=?_) (sc_of hHeld) ?_ ?_
        rotate_left
        ·(intro w;go_simp;try with_reducible rfl)
        try simp only[Act.put,List.setIfInBounds_toArray,List.set_cons_zero,List.set_cons_succ]
        refine tkW 5 (v:=?_) (sc_of hHeld) ?_ ?_
        rotate_left
        ·(intro w;go_simp;try with_reducible rfl)
        try simp only[Act.put,List.setIfInBounds_toArray,List.set_cons_zero,List.set_cons_succ]
        refine tkL 6 (v:=?_) hHeld ?_ ?_
        rotate_left
        ·(intro w h;(try dsimp only at h);go_simp;try with_reducible rfl)
        try simp only[Act.put,List.setIfInBounds_toArray,List.set_cons_zero,List.set_cons_succ]
        refine tkL 7 (v:=?_) hHeld ?_ ?_
        rotate_left
        ·(intro w h;(try dsimp only at h);go_simp;try with_reducible rfl)
        try simp only[Act.put,List.setIfInBounds_toArray,List.set_cons_zero,List.set_cons_succ]
        refine tkL 8 (v:=?_) hHeld ?_ ?_
        rotate_left
        ·(intro w h;(try dsimp only at h);go_simp;try with_reducible rfl)
        try simp only[Act.put,List.setIfInBounds_toArray,List.set_cons_zero,List.set_cons_succ]
        refine stepP (i:=10) (o:=_) rfl (by as_aux_lemma=>kernel_rfl) (by as_aux_lemma=>kernel_rfl) (fun K hK=>?_)
        (go_simp;go_at_call 15;go_must (refine(rdo_v ⟨R1,mc,mt,mf,wt⟩ Ar m cr a (.slice A3 n3 c3) ⟨kc,ki,ld⟩ ai mi ci e t2 _ W10.heap.size (by first|exact Nat.le_refl _|(simp;done)) (by exact HR10.out.keep (by exact bel)) HRM.out hm20 (by exact HU10.out.keep (by exact bel)) (by exact HI10.out.keep (by exact bel)) HMI.out hmic (by omega)).mono ?_);rw[HRR.out];unfold RDoP auV;(try dsimp only);rintro x w4 ⟨vo,vd,rfl,hb4,hP,hA⟩;obtain⟨Ao3,co3,rfl⟩:=pksr_form hP;obtain⟨Ad3,cd3,rfl⟩:=acts_form hA;have HB4:=hid hb4;have HP4:=hid hP;have HA4:=hid hA;have hr4:=(hb4.block _ (lt_blk HT10.out.r2)).trans HT10.out.r2;clear hb4 hP hA;obtain⟨z0,z1,z2,z3,z4,z5,z6⟩:=cells7 hr4;have fz4:=frees hr4;have lz4:=lt_blk hr4;clear hr4)
        refine hK.out _ _ ?_
        clear hK K
        try simp only[Act.put,List.setIfInBounds_toArray,List.set_cons_zero,List.set_cons_succ]
        refine tkW 11 (v:=?_) (sc_past (by kernel_rfl)) ?_ ?_
        rotate_left
        ·(intro w;go_simp;try with_reducible rfl)
        try simp only[Act.put,List.setIfInBounds_toArray,List.set_cons_zero,List.set_cons_succ]
        refine tkW 12 (v:=?_) (sc_past (by kernel_rfl)) ?_ ?_
        rotate_left
        ·(intro w;go_simp;try with_reducible rfl)
        try simp only[Act.put,List.setIfInBounds_toArray,List.set_cons_zero,List.set_cons_succ]
        refine tkW 13 (v:=?_) (sc_past (by kernel_rfl)) ?_ ?_
        rotate_left
        ·(intro w;go_simp;try with_reducible rfl)
        try simp only[Act.put,List.setIfInBounds_toArray,List.set_cons_zero,List.set_cons_succ]
        refine tkW 14 (v:=?_) (sc_past (by kernel_rfl)) ?_ ?_
        rotate_left
        ·(intro w;go_simp;try with_reducible rfl)
        try simp only[Act.put,List.setIfInBounds_toArray,List.set_cons_zero,List.set_cons_succ]
        refine stepP (i:=15) (o:=_) rfl (by as_aux_lemma=>kernel_rfl) (by as_aux_lemma=>kernel_rfl) (fun K hK=>?_)
        go_simp
        refine hK.out _ _ ?_
        clear hK K
        try simp only[Act.put,List.setIfInBounds_toArray,List.set_cons_zero,List.set_cons_succ]
        refine tkW 16 (v:=?_) (sc_past (by kernel_rfl)) ?_ ?_
        rotate_left
        ·(intro w;go_simp;try with_reducible rfl)
        try simp only[Act.put,List.setIfInBounds_toArray,List.set_cons_zero,List.set_cons_succ]
        refine tkW 17 (v:=?_) (sc_past (by kernel_rfl)) ?_ ?_
        rotate_left
        ·(intro w;go_simp;try with_reducible rfl)
        try simp only[Act.put,List.setIfInBounds_toArray,List.set_cons_zero,List.set_cons_succ]
        try simp only[Act.put,List.getElem_toArray,List.getElem_cons_zero,List.getElem_cons_succ,List.setIfInBounds_toArray,List.set_cons_zero,List.set_cons_succ]
        refine doneC (by kernel_rfl) ?_ _
        clear z0 z1 z2 z3 z4 z5 z6 fz4 lz4 q0 q1 q2 q3 q4 p1 fy y0 y1 y2 u0 u1 u2 u3 u4 u5 u6 fu
        go_wp2_with fail
        go_meet
        generalize hWf:World.setCell _ _ _=W11
        have HASK:=hid (show r.1.ask=a.ask by rw[←HRR.out];exact doO_ask ..)
        have h3:=Two.ref (W:=W10.drew) (P:=0) (rc:=#[]) (a':=r.1) (HT10.out.below (Below.refl _ _).drew) (HP10.out.below (Below.refl _ _).drew) (HA10.out.below (Below.refl _ _).drew) HB4.out (.inl ⟨rfl,HASK.out⟩) HP4.out HA4.out
        unfold set7 at h3
        rw[hWf] at h3
        obtain⟨ht,hp1,hp2,ha1,ha2⟩:=h3
        exact⟨_,r.1,B1,_,m1,e1,_,_,r.2.1,r.2.2,rfl,hp1,hp2,ha1,ha2,(by have:=HLEN.out;omega),(by have:=HLEN.out;omega),HISR.out,ht⟩
       ·skip
        by_cases hd2:dq=2
        ·subst hd2
         skip
         obtain⟨r,hr⟩: ∃r,timO ⟨R1,mc,mt,mf,wt⟩ a t2=r:=⟨_,rfl⟩
         have HRR:=hid hr
         have HLEN:=hid (show r.2.1.length≤13∧r.2.2.length≤3 by rw[←hr];exact timO_lens ..)
         have HISR:=hid (show isB r.1=true by rw[←hr];exact timO_is HIS.out)
         clear hr
         go_wp2_with fail
         refine(tim_v ⟨R1,mc,mt,mf,wt⟩ Ar m cr a (.slice A1 n1 c1) t2 W9 W9.heap.size (Nat.le_refl _) HR9.out HRM.out hm20 HIS.out HV9.out).mono ?_
         rw[HRR.out]
         unfold DoP auV
         try dsimp only
         rintro x w3 ⟨va,vo,vd,rfl,hb3,hO,hP,hA⟩;obtain⟨B1,m1,e1,rfl⟩:=hO.form;obtain⟨Ao1,co1,rfl⟩:=pks_form hP;obtain⟨Ad1,cd1,rfl⟩:=acts_form hA;have HB3:=hid hb3;have HO3:=hid hO;have HP3:=hid hP;have HA3:=hid hA;have hr3:=(hb3.block _ (lt_blk HT9.out.r1)).trans HT9.out.r1;clear hb3 hO hP hA;obtain⟨y0,y1,y2,y3,y4,y5,y6⟩:=cells7 hr3;have fy3:=frees hr3;have ly3:=lt_blk hr3;clear hr3
         go_upto_region 27 with(fail)
         generalize hWf:World.setCell _ _ _=W10
         clear y0 y1 y2 y3 y4 y5 y6 fy3 ly3 q0 q1 q2 q3 q4 p1 fs s0 s1 s2 s3 s4 s5 s6 fy u0 u1 u2 u3 u4 u5 u6 fu
         have hst:set7 w3 W4.heap.size r.1 (.slice B1 m1 e1)=W10:=hWf
         have h3:=Two.prog (W:=W9) (a':=r.1) HT9.out HB3.out HO3.out HP3.out HA3.out HROW9.out
         rw[hst] at h3
         obtain⟨ht,hp,ha,hr,hz⟩:=h3
         have HT10:=hid ht
         have HP10:=hid hp
         have HA10:=hid ha
         have HROW10:=hid hr
         clear hst hWf ht hp ha hr hz HB3 HO3 HP3 HA3
         have hbl10:=HT10.out.bel
         have hs10:=hbl10.size
         have HR10:=hid ((HRW.out.keep hbl10).more (show w.heap.size≤W10.heap.size by omega))
         have HI10:=hid ((HINW.out.keep hbl10).more (show w.heap.size≤W10.heap.size by omega))
         have p1:=(hbl10.cell (p:=⟨b,_,none⟩) hbB).trans P1W.out
         have hbr10:b<W10.heap.size:=by omega
         have HV10:=hid HT10.out.v1s
         have HU10:=hid HT10.out.v2s
         have lP10:=lt_blk HROW10.out
         have lU10:=HT10.out.lt
         clear hbl10
         obtain⟨q0,q1,q2,q3,q4⟩:=cells5 HT10.out.conf
         obtain⟨u0,u1,u2,u3,u4,u5,u6⟩:=cells7 HT10.out.r2
         have fu:=frees HT10.out.r2
         obtain⟨y0,y1,y2⟩:=cells3 HROW10.out
         have fy:=frees HROW10.out
         go_wp2_with fail
         refine(rtim_v ⟨R1,mc,mt,mf,wt⟩ Ar m cr a (.slice A3 n3 c3) t2 W10 W10.heap.size (Nat.le_refl _) HR10.out HRM.out hm20 HU10.out).mono ?_
         rw[HRR.out]
         unfold RDoP auV
         try dsimp only
         rintro x w4 ⟨vo,vd,rfl,hb4,hP,hA⟩
         obtain⟨Ao3,co3,rfl⟩:=pksr_form hP;obtain⟨Ad3,cd3,rfl⟩:=acts_form hA;have HB4:=hid hb4;have HP4:=hid hP;have HA4:=hid hA;have hr4:=(hb4.block _ (lt_blk HT10.out.r2)).trans HT10.out.r2;clear hb4 hP hA;obtain⟨z0,z1,z2,z3,z4,z5,z6⟩:=cells7 hr4;have fz4:=frees hr4;have lz4:=lt_blk hr4;clear hr4
         have HASK:=hid (show r.1.ask=a.ask by rw[←HRR.out];exact timO_ask ..)
         go_wp2_with fail
         go_meet
         generalize hWf:World.setCell _ _ _=W11
         have h3:=Two.ref (W:=W10) (P:=0) (rc:=#[]) (a':=r.1) HT10.out HP10.out HA10.out HB4.out (.inl ⟨rfl,HASK.out⟩) HP4.out HA4.out
         unfold set7 at h3
         rw[hWf] at h3
         obtain⟨ht,hp1,hp2,ha1,ha2⟩:=h3
         exact⟨_,r.1,B1,_,m1,e1,_,_,r.2.1,r.2.2,rfl,hp1,hp2,ha1,ha2,(by have:=HLEN.out;omega),(by have:=HLEN.out;omega),HISR.out,ht⟩
        ·skip
         by_cases hd3:dq=3
         ·subst hd3
          skip
          go_wp2_with fail
          refine(renc_v a (.slice A3 n3 c3) W9 W9.heap.size (Nat.le_refl _) HU9.out rfl).mono ?_
          unfold Op.EncP
          obtain⟨⟨eb,ee⟩,henc⟩: ∃y,Op.encR a.ask=y:=⟨_,rfl⟩
          have hel:=encR_len a.ask
          rw[henc] at hel ⊢
          dsimp only at hel ⊢
          clear henc
          rintro x Wb ⟨ve,rfl,hbb,hoe⟩
          obtain⟨Ae,ce,rfl,hce,-⟩:=ownsRow_form hoe
          obtain⟨ne,hne⟩: ∃n,eb.length=n:=⟨_,rfl⟩
          rw[hne] at hoe hce hel ⊢
          have HNE:=hid hne.symm
          have HTb:=hid (HT9.out.below hbb)
          have HROWb:=hid ((hbb.block _ lP).trans HROW9.out)
          have HOEb:=hid hoe
          clear hbb hoe hne q0 q1 q2 q3 q4 p1 fs s0 s1 s2 s3 s4 s5 s6 fy y0 y1 y2 u0 u1 u2 u3 u4 u5 u6 fu p0
          obtain⟨y0,y1,y2⟩:=cells3 HROWb.out
          have fy:=frees HROWb.out
          obtain⟨u0,u1,u2,u3,u4,u5,u6⟩:=cells7 HTb.out.r2
          have lPb:=lt_blk HROWb.out
          have lUb:=HTb.out.lt
          go_upto_region 20 with(fail)
          generalize hWf:World.setCell _ _ _=Wc
          have hgc:Wb.grownBy Wc (some P):=by rw[←hWf];exact grn
          have HROWc:=hid (show Wc.heap[P]? =some (.cells #[.int .i64 kc,.int .i64 a.req,.slice Ae ne ce] 32 (0,0)) by rw[←hWf];exact row3l HROWb.out rfl _ _ _)
          have HTc:=hid (HTb.out.off hgc HROWb.out (no_bytes3 _ _ _ _ _) HUP.out (by decide) (by decide))
          have HOEc:=hid (own_stays HOEb.out hgc fun r e=>by cases e;exact .inr (.inr ⟨_,_,HROWb.out,by decide⟩))
          have HEc:=hid (At.of_own HOEc.out)
          clear hWf hgc y0 y1 y2 fy u0 u1 u2 u3 u4 u5 u6
          have hblc:=HTc.out.bel
          have hsc:=hblc.size
          have HRc:=hid ((HRW.out.keep hblc).more (show w.heap.size≤Wc.heap.size by omega))
          have HIc:=hid ((HINW.out.keep hblc).more (show w.heap.size≤Wc.heap.size by omega))
          have p1:=(hblc.cell (p:=⟨b,_,none⟩) hbB).trans P1W.out
          have hbrc:b<Wc.heap.size:=by omega
          have HVc:=hid HTc.out.v1s
          have HUc:=hid HTc.out.v2s
          have lPc:=lt_blk HROWc.out
          have lUc:=HTc.out.lt
          clear hblc
          obtain⟨q0,q1,q2,q3,q4⟩:=cells5 HTc.out.conf
          obtain⟨s0,s1,s2,s3,s4,s5,s6⟩:=cells7 HTc.out.r1
          have fs:=frees HTc.out.r1
          obtain⟨u0,u1,u2,u3,u4,u5,u6⟩:=cells7 HTc.out.r2
          have fu:=frees HTc.out.r2
          obtain⟨y0,y1,y2⟩:=cells3 HROWc.out
          have fy:=frees HROWc.out
          have hnic:ne≤ce:=hce
          obtain⟨r,hr⟩: ∃r,(packO ⟨R1,mc,mt,mf,wt⟩ a ⟨kc,a.req,eb⟩ t2).1=r:=⟨_,rfl⟩
          have HRR:=hid hr
          have HLEN:=hid (show r.2.1.length≤13∧r.2.2.length≤3 by rw[←hr];exact(packO_lens _ _ _ _ (by have:=(is_small HIS.out).1;omega)).2)
          have HISR:=hid (show isB r.1=true by rw[←hr];exact packO_is HIS.out)
          clear hr
          obtain⟨ok,hok⟩: ∃k,(packO ⟨R1,mc,mt,mf,wt⟩ a ⟨kc,a.req,eb⟩ t2).2=k:=⟨_,rfl⟩
          have HPK:=hid (show packO ⟨R1,mc,mt,mf,wt⟩ a ⟨kc,a.req,eb⟩ t2=(r,ok) from Prod.ext HRR.out hok)
          clear hok
          go_wp2_with fail
          refine(pack_v ⟨R1,mc,mt,mf,wt⟩ Ar m cr a (.slice A1 n1 c1) ⟨kc,a.req,eb⟩ Ae ne ce t2 Wc Wc.heap.size (Nat.le_refl _) HRc.out HRM.out hm20 HIS.out HVc.out HEc.out HNE.out hce (by omega)).mono ?_
          rw[HPK.out]
          unfold PackP auV
          try dsimp only
          rintro x w3 ⟨va,vo,vd,rfl,hb3,hO,hP,hA⟩;obtain⟨B1,m1,e1,rfl⟩:=hO.form;obtain⟨Ao1,co1,rfl⟩:=pks_form hP;obtain⟨Ad1,cd1,rfl⟩:=acts_form hA;have HB3:=hid hb3;have HO3:=hid hO;have HP3:=hid hP;have HA3:=hid hA;have hr3:=(hb3.block _ (lt_blk HTc.out.r1)).trans HTc.out.r1;clear hb3 hO hP hA;obtain⟨y0,y1,y2,y3,y4,y5,y6⟩:=cells7 hr3;have fy3:=frees hr3;have ly3:=lt_blk hr3;clear hr3
          go_upto_region 21 with(fail)
          generalize hWf:World.setCell _ _ _=W10
          clear y0 y1 y2 y3 y4 y5 y6 fy3 ly3 q0 q1 q2 q3 q4 p1 fs s0 s1 s2 s3 s4 s5 s6 fy u0 u1 u2 u3 u4 u5 u6 fu
          have hoe:=own_stays (own_below HOEc.out HB3.out) (grown7 w3 (W4.heap.size) r.1 (.slice B1 m1 e1)) (fun q e2=>by cases e2;exact .inr (.inr ⟨_,_,(HB3.out.block _ (lt_blk HTc.out.r1)).trans HTc.out.r1,by decide⟩))
          have hst:set7 w3 W4.heap.size r.1 (.slice B1 m1 e1)=W10:=hWf
          have h3:=Two.prog (W:=Wc) (a':=r.1) HTc.out HB3.out HO3.out HP3.out HA3.out HROWc.out
          rw[hst] at h3
          rw[hst] at hoe
          have HOE10:=hid hoe
          clear hoe
          obtain⟨ht,hp,ha,hr,hz⟩:=h3
          have HT10:=hid ht
          have HP10:=hid hp
          have HA10:=hid ha
          have HROW10:=hid hr
          clear hst hWf ht hp ha hr hz HB3 HO3 HP3 HA3
          have hbl10:=HT10.out.bel
          have hs10:=hbl10.size
          have HR10:=hid ((HRW.out.keep hbl10).more (show w.heap.size≤W10.heap.size by omega))
          have HI10:=hid ((HINW.out.keep hbl10).more (show w.heap.size≤W10.heap.size by omega))
          have p1:=(hbl10.cell (p:=⟨b,_,none⟩) hbB).trans P1W.out
          have hbr10:b<W10.heap.size:=by omega
          have HV10:=hid HT10.out.v1s
          have HU10:=hid HT10.out.v2s
          have lP10:=lt_blk HROW10.out
          have lU10:=HT10.out.lt
          clear hbl10
          obtain⟨q0,q1,q2,q3,q4⟩:=cells5 HT10.out.conf
          obtain⟨u0,u1,u2,u3,u4,u5,u6⟩:=cells7 HT10.out.r2
          have fu:=frees HT10.out.r2
          obtain⟨y0,y1,y2⟩:=cells3 HROW10.out
          have fy:=frees HROW10.out
          go_wp2_with fail
          refine(rpack_v ⟨R1,mc,mt,mf,wt⟩ Ar m cr a (.slice A3 n3 c3) ⟨kc,a.req,eb⟩ Ae ne ce t2 W10 W10.heap.size (Nat.le_refl _) HR10.out HRM.out hm20 HIS.out HU10.out (At.of_own HOE10.out) HNE.out hce (by omega)).mono ?_
          rw[HPK.out]
          unfold RPackP auV
          try dsimp only
          rintro x w4 ⟨va4,vo,vd,rfl,hb4,hO4,hP,hA⟩
          obtain⟨B3,m3,e3,rfl⟩: ∃A n c,va4=.slice A n c:=by rcases hO4 with⟨rfl,-⟩|h;exact⟨_,_,_,rfl⟩;exact h.form
          have HO4:=hid hO4
          clear hO4
          obtain⟨Ao3,co3,rfl⟩:=pksr_form hP;obtain⟨Ad3,cd3,rfl⟩:=acts_form hA;have HB4:=hid hb4;have HP4:=hid hP;have HA4:=hid hA;have hr4:=(hb4.block _ (lt_blk HT10.out.r2)).trans HT10.out.r2;clear hb4 hP hA;obtain⟨z0,z1,z2,z3,z4,z5,z6⟩:=cells7 hr4;have fz4:=frees hr4;have lz4:=lt_blk hr4;clear hr4
          go_wp2_with fail
          go_meet
          generalize hWf:World.setCell _ _ _=W11
          have h3:=Two.ref (W:=W10) (P:=0) (rc:=#[]) (a':=r.1) HT10.out HP10.out HA10.out HB4.out HO4.out HP4.out HA4.out
          unfold set7 at h3
          rw[hWf] at h3
          obtain⟨ht,hp1,hp2,ha1,ha2⟩:=h3
          exact⟨_,r.1,B1,B3,m1,e1,m3,e3,r.2.1,r.2.2,rfl,hp1,hp2,ha1,ha2,(by have:=HLEN.out;omega),(by have:=HLEN.out;omega),HISR.out,ht⟩
         ·obtain rfl:dq=1:=by omega
          skip
          obtain⟨r,hr⟩: ∃r,(packO ⟨R1,mc,mt,mf,wt⟩ a ⟨kc,ki,ld⟩ t2).1=r:=⟨_,rfl⟩
          have HRR:=hid hr
          have HLEN:=hid (show r.2.1.length≤13∧r.2.2.length≤3 by rw[←hr];exact(packO_lens _ _ _ _ (by have:=(is_small HIS.out).1;omega)).2)
          have HISR:=hid (show isB r.1=true by rw[←hr];exact packO_is HIS.out)
          clear hr
          obtain⟨ok,hok⟩: ∃k,(packO ⟨R1,mc,mt,mf,wt⟩ a ⟨kc,ki,ld⟩ t2).2=k:=⟨_,rfl⟩
          have HPK:=hid (show packO ⟨R1,mc,mt,mf,wt⟩ a ⟨kc,ki,ld⟩ t2=(r,ok) from Prod.ext HRR.out hok)
          clear hok
          go_wp2_with fail
          refine(pack_v ⟨R1,mc,mt,mf,wt⟩ Ar m cr a (.slice A1 n1 c1) ⟨kc,ki,ld⟩ ai mi ci t2 W9 W9.heap.size (Nat.le_refl _) HR9.out HRM.out hm20 HIS.out HV9.out HI9.out HMI.out hmic (by omega)).mono ?_
          rw[HPK.out]
          unfold PackP auV
          try dsimp only
          rintro x w3 ⟨va,vo,vd,rfl,hb3,hO,hP,hA⟩;obtain⟨B1,m1,e1,rfl⟩:=hO.form;obtain⟨Ao1,co1,rfl⟩:=pks_form hP;obtain⟨Ad1,cd1,rfl⟩:=acts_form hA;have HB3:=hid hb3;have HO3:=hid hO;have HP3:=hid hP;have HA3:=hid hA;have hr3:=(hb3.block _ (lt_blk HT9.out.r1)).trans HT9.out.r1;clear hb3 hO hP hA;obtain⟨y0,y1,y2,y3,y4,y5,y6⟩:=cells7 hr3;have fy3:=frees hr3;have ly3:=lt_blk hr3;clear hr3
          go_upto_region 21 with(fail)
          generalize hWf:World.setCell _ _ _=W10
          clear y0 y1 y2 y3 y4 y5 y6 fy3 ly3 q0 q1 q2 q3 q4 p1 fs s0 s1 s2 s3 s4 s5 s6 fy u0 u1 u2 u3 u4 u5 u6 fu
          have hst:set7 w3 W4.heap.size r.1 (.slice B1 m1 e1)=W10:=hWf
          have h3:=Two.prog (W:=W9) (a':=r.1) HT9.out HB3.out HO3.out HP3.out HA3.out HROW9.out
          rw[hst] at h3
          obtain⟨ht,hp,ha,hr,hz⟩:=h3
          have HT10:=hid ht
          have HP10:=hid hp
          have HA10:=hid ha
          have HROW10:=hid hr
          clear hst hWf ht hp ha hr hz HB3 HO3 HP3 HA3
          have hbl10:=HT10.out.bel
          have hs10:=hbl10.size
          have HR10:=hid ((HRW.out.keep hbl10).more (show w.heap.size≤W10.heap.size by omega))
          have HI10:=hid ((HINW.out.keep hbl10).more (show w.heap.size≤W10.heap.size by omega))
          have p1:=(hbl10.cell (p:=⟨b,_,none⟩) hbB).trans P1W.out
          have hbr10:b<W10.heap.size:=by omega
          have HV10:=hid HT10.out.v1s
          have HU10:=hid HT10.out.v2s
          have lP10:=lt_blk HROW10.out
          have lU10:=HT10.out.lt
          clear hbl10
          obtain⟨q0,q1,q2,q3,q4⟩:=cells5 HT10.out.conf
          obtain⟨u0,u1,u2,u3,u4,u5,u6⟩:=cells7 HT10.out.r2
          have fu:=frees HT10.out.r2
          obtain⟨y0,y1,y2⟩:=cells3 HROW10.out
          have fy:=frees HROW10.out
          go_wp2_with fail
          refine(rpack_v ⟨R1,mc,mt,mf,wt⟩ Ar m cr a (.slice A3 n3 c3) ⟨kc,ki,ld⟩ ai mi ci t2 W10 W10.heap.size (Nat.le_refl _) HR10.out HRM.out hm20 HIS.out HU10.out HI10.out HMI.out hmic (by omega)).mono ?_
          rw[HPK.out]
          unfold RPackP auV
          try dsimp only
          rintro x w4 ⟨va4,vo,vd,rfl,hb4,hO4,hP,hA⟩
          obtain⟨B3,m3,e3,rfl⟩: ∃A n c,va4=.slice A n c:=by rcases hO4 with⟨rfl,-⟩|h;exact⟨_,_,_,rfl⟩;exact h.form
          have HO4:=hid hO4
          clear hO4
          obtain⟨Ao3,co3,rfl⟩:=pksr_form hP;obtain⟨Ad3,cd3,rfl⟩:=acts_form hA;have HB4:=hid hb4;have HP4:=hid hP;have HA4:=hid hA;have hr4:=(hb4.block _ (lt_blk HT10.out.r2)).trans HT10.out.r2;clear hb4 hP hA;obtain⟨z0,z1,z2,z3,z4,z5,z6⟩:=cells7 hr4;have fz4:=frees hr4;have lz4:=lt_blk hr4;clear hr4
          go_wp2_with fail
          go_meet
          generalize hWf:World.setCell _ _ _=W11
          have h3:=Two.ref (W:=W10) (P:=0) (rc:=#[]) (a':=r.1) HT10.out HP10.out HA10.out HB4.out HO4.out HP4.out HA4.out
          unfold set7 at h3
          rw[hWf] at h3
          obtain⟨ht,hp1,hp2,ha1,ha2⟩:=h3
          exact⟨_,r.1,B1,B3,m1,e1,m3,e3,r.2.1,r.2.2,rfl,hp1,hp2,ha1,ha2,(by have:=HLEN.out;omega),(by have:=HLEN.out;omega),HISR.out,ht⟩
      case rest=>
       skip
       obtain⟨Wn,a9,B1,B3,m1,e1,m3,e3,ou,ac,rfl,hp1,hp2,ha1,ha2,hlo9,hla9,his9,ht9⟩:=hcut
       have HTn:=hid ht9
       have HP1:=hid hp1
       have HP2:=hid hp2
       have HC1:=hid ha1
       have HC2:=hid ha2
       have HISn:=hid his9
       have HLO9:=hid hlo9
       have HLA9:=hid hla9
       have hbln:=ht9.bel
       have hsn:=hbln.size
       have HRn:=hid ((HRW.out.keep hbln).more (show w.heap.size≤Wn.heap.size by omega))
       have HBn:=hid hbln
       have lUn:=ht9.lt
       have lTn:W4.heap.size<Wn.heap.size:=by omega
       have lwn:w.heap.size<Wn.heap.size:=by omega
       have HO1n:=hid ht9.v1s
       have HO2n:=hid ht9.v2s
       clear hp1 hp2 ha1 ha2 hlo9 hla9 his9 ht9 hbln q0 q1 q2 q3 q4 y0 y1 y2 fy p1 fs s0 s1 s2 s3 s4 s5 s6 u0 u1 u2 u3 u4 u5 u6 fu p0
       obtain⟨q0,q1,q2,q3,q4⟩:=cells5 HTn.out.conf
       obtain⟨s0,s1,s2,s3,s4,s5,s6⟩:=cells7 HTn.out.r1
       obtain⟨u0,u1,u2,u3,u4,u5,u6⟩:=cells7 HTn.out.r2
       have hwk:IntKind.i64.wrap ((k:Int)+1)=((k:Int)+1):=IntWalk.i64_in _ (by omega)
       have HP1n:=HP1
       have HP2n:=HP2
       have HC1n:=HC1
       have HC2n:=HC2
       clear HP1 HP2 HC1 HC2
       go_wp2_with fail
       refine(sameAu_v a9 (.slice B1 m1 e1) (.slice B3 m3 e3) _ Wn.heap.size (Nat.le_refl _) HO1n.out HO2n.out (by have:=(is_small HISn.out).1;omega)).mono ?_
       rintro x Wx ⟨rfl,hb⟩
       have HTx:=hid (HTn.out.below hb)
       have hqx:=hb.size
       have HO1x:=hid ((HO1n.out.keep hb).more hqx)
       have HO2x:=hid ((HO2n.out.keep hb).more hqx)
       have HP1x:=hid ((HP1n.out.keep hb).more hqx)
       have HP2x:=hid ((HP2n.out.keep hb).more hqx)
       have HC1x:=hid ((HC1n.out.keep hb).more hqx)
       have HC2x:=hid ((HC2n.out.keep hb).more hqx)
       have HRx:=hid ((HRn.out.keep hb).more hqx)
       clear hb q0 q1 q2 q3 q4 s0 s1 s2 s3 s4 s5 s6 u0 u1 u2 u3 u4 u5 u6 HO1n HO2n HP1n HP2n HC1n HC2n HRn
       obtain⟨q0,q1,q2,q3,q4⟩:=cells5 HTx.out.conf
       obtain⟨s0,s1,s2,s3,s4,s5,s6⟩:=cells7 HTx.out.r1
       obtain⟨u0,u1,u2,u3,u4,u5,u6⟩:=cells7 HTx.out.r2
       go_wp2_with fail
       refine(sameAll_v _ _ ou _ Wx.heap.size (Nat.le_refl _) HP1x.out HP2x.out (by have:=HLO9.out;omega)).mono ?_
       rintro x Wy ⟨rfl,hb⟩
       have HTy:=hid (HTx.out.below hb)
       have hqy:=hb.size
       have HO1y:=hid ((HO1x.out.keep hb).more hqy)
       have HO2y:=hid ((HO2x.out.keep hb).more hqy)
       have HP1y:=hid ((HP1x.out.keep hb).more hqy)
       have HP2y:=hid ((HP2x.out.keep hb).more hqy)
       have HC1y:=hid ((HC1x.out.keep hb).more hqy)
       have HC2y:=hid ((HC2x.out.keep hb).more hqy)
       have HRy:=hid ((HRx.out.keep hb).more hqy)
       clear hb q0 q1 q2 q3 q4 s0 s1 s2 s3 s4 s5 s6 u0 u1 u2 u3 u4 u5 u6 HO1x HO2x HP1x HP2x HC1x HC2x HRx
       obtain⟨q0,q1,q2,q3,q4⟩:=cells5 HTy.out.conf
       obtain⟨s0,s1,s2,s3,s4,s5,s6⟩:=cells7 HTy.out.r1
       obtain⟨u0,u1,u2,u3,u4,u5,u6⟩:=cells7 HTy.out.r2
       go_wp2_with fail
       refine(sameActs_v _ _ ac _ Wy.heap.size (Nat.le_refl _) HC1y.out HC2y.out (by have:=HLA9.out;omega)).mono ?_
       rintro x Wz ⟨rfl,hb⟩
       have HTz:=hid (HTy.out.below hb)
       have hqz:=hb.size
       have HO1z:=hid ((HO1y.out.keep hb).more hqz)
       have HO2z:=hid ((HO2y.out.keep hb).more hqz)
       have HP1z:=hid ((HP1y.out.keep hb).more hqz)
       have HP2z:=hid ((HP2y.out.keep hb).more hqz)
       have HC1z:=hid ((HC1y.out.keep hb).more hqz)
       have HC2z:=hid ((HC2y.out.keep hb).more hqz)
       have HRz:=hid ((HRy.out.keep hb).more hqz)
       clear hb q0 q1 q2 q3 q4 s0 s1 s2 s3 s4 s5 s6 u0 u1 u2 u3 u4 u5 u6 HO1y HO2y HP1y HP2y HC1y HC2y HRy
       obtain⟨q0,q1,q2,q3,q4⟩:=cells5 HTz.out.conf
       obtain⟨s0,s1,s2,s3,s4,s5,s6⟩:=cells7 HTz.out.r1
       obtain⟨u0,u1,u2,u3,u4,u5,u6⟩:=cells7 HTz.out.r2
       go_wp2_with fail
       refine(is_v a9 (.slice B1 m1 e1) _ Wz.heap.size (Nat.le_refl _) HISn.out HO1z.out).mono ?_
       rintro x Wu ⟨rfl,hb⟩
       have HTu:=hid (HTz.out.below hb)
       have hqu:=hb.size
       have HO1u:=hid ((HO1z.out.keep hb).more hqu)
       have HO2u:=hid ((HO2z.out.keep hb).more hqu)
       have HP1u:=hid ((HP1z.out.keep hb).more hqu)
       have HP2u:=hid ((HP2z.out.keep hb).more hqu)
       have HC1u:=hid ((HC1z.out.keep hb).more hqu)
       have HC2u:=hid ((HC2z.out.keep hb).more hqu)
       have HRu:=hid ((HRz.out.keep hb).more hqu)
       clear hb q0 q1 q2 q3 q4 s0 s1 s2 s3 s4 s5 s6 u0 u1 u2 u3 u4 u5 u6 HO1z HO2z HP1z HP2z HC1z HC2z HRz
       obtain⟨q0,q1,q2,q3,q4⟩:=cells5 HTu.out.conf
       obtain⟨s0,s1,s2,s3,s4,s5,s6⟩:=cells7 HTu.out.r1
       obtain⟨u0,u1,u2,u3,u4,u5,u6⟩:=cells7 HTu.out.r2
       go_wp2_with fail
       refine(chk_v ⟨R1,mc,mt,mf,wt⟩ Ar m cr a9 (.slice B1 m1 e1) _ Wu.heap.size (Nat.le_refl _) HRu.out HRM.out hm20 HISn.out HO1u.out HCB.out).mono ?_
       rintro x Wv ⟨rfl,hb⟩
       have HTv:=hid (HTu.out.below hb)
       have hqv:=hb.size
       have HO1v:=hid ((HO1u.out.keep hb).more hqv)
       have HO2v:=hid ((HO2u.out.keep hb).more hqv)
       have HP1v:=hid ((HP1u.out.keep hb).more hqv)
       have HP2v:=hid ((HP2u.out.keep hb).more hqv)
       have HC1v:=hid ((HC1u.out.keep hb).more hqv)
       have HC2v:=hid ((HC2u.out.keep hb).more hqv)
       have HRv:=hid ((HRu.out.keep hb).more hqv)
       clear hb q0 q1 q2 q3 q4 s0 s1 s2 s3 s4 s5 s6 u0 u1 u2 u3 u4 u5 u6 HO1u HO2u HP1u HP2u HC1u HC2u HRu
       obtain⟨q0,q1,q2,q3,q4⟩:=cells5 HTv.out.conf
       obtain⟨s0,s1,s2,s3,s4,s5,s6⟩:=cells7 HTv.out.r1
       obtain⟨u0,u1,u2,u3,u4,u5,u6⟩:=cells7 HTv.out.r2
       clear q0 q1 q2 q3 q4 s0 s1 s2 s3 s4 s5 s6 u0 u1 u2 u3 u4 u5 u6
       go_wp2_with fail
       refine⟨invR_intro (s12:=.int .i64 t2) (s13:=.int .i64 ((k:Int)+1)) ?_ (by as_aux_lemma=>kernel_rfl),by simp[intOf];omega⟩
       exact⟨k+1,t2,a9,B1,B3,m1,e1,m3,e3,by omega,by omega,by go_num,rfl,ht20,by go_num,HISn.out,HTv.out⟩
    ·obtain rfl:k=40:=by omega
     have hkk:(40:Int)<(no:Int):=by omega
     go_wp2_with fail
     go_ret
     exact⟨rfl,HBR.out⟩
   ·obtain rfl:no=k:=by omega
    go_wp2_with fail
    go_ret
    exact⟨rfl,HBR.out⟩
 ·obtain rfl:e0=160:=by rw[←HE0.out];unfold errNew;rw[if_neg hz]
  clear hz
  go_wp2_with fail
  go_ret
  exact⟨rfl,HB_W6.out⟩
end Go.Proofs.YtfkgmbknfnhjoaaGreat
