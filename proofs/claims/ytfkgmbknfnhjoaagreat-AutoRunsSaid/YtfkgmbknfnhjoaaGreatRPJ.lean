/- Bundle PJ. -/
import Derived.Test.YtfkgmbknfnhjoaaGreatRPE
import Derived.Test.YtfkgmbknfnhjoaaGreatRN4
set_option maxHeartbeats 8000000
namespace Go.Proofs.YtfkgmbknfnhjoaaGreat
open Lib (hid)
open Go.RowKit
set_option linter.unusedSimpArgs false
set_option linter.unusedVariables false
set_option linter.ambiguousOpen false
open Ne (Rl Opt RulesAt areB answerO learnO)
open Fs (av hasB)
def askedO (c:Cf) (a:Au) (inn:Pk):Option (Int×Pk×List Opt):=
 if (Op.decR inn.data).2≠0 then none
 else if (Op.encR (answerO c.rules (Op.decR inn.data).1 a.nak c.mf).2).2≠0 then none
 else some (if (answerO c.rules (Op.decR inn.data).1 a.nak c.mf).1=2 then 7 else 8,⟨(answerO c.rules (Op.decR inn.data).1 a.nak c.mf).1,inn.id,(Op.encR (answerO c.rules (Op.decR inn.data).1 a.nak c.mf).2).1⟩,a.ask)
def learnedO (a:Au) (inn:Pk):Option (Int×Pk×List Opt):=
 if inn.id≠a.req∨(Op.decR inn.data).2≠0 then none
 else if (learnO a.ask inn.code (Op.decR inn.data).1).2=true∧(Op.encR (learnO a.ask inn.code (Op.decR inn.data).1).1).2=0 then some (10,⟨0,0,[]⟩,(learnO a.ask inn.code (Op.decR inn.data).1).1)
 else none
def whichO (c:Cf) (a:Au) (inn:Pk):Option (Int×Pk×List Opt):=
 if inn.code=1 then askedO c a inn
 else if inn.code=2 then(if inn.id=a.req∧inn.data=(Op.encR a.ask).1 then some (9,⟨0,0,[]⟩,a.ask) else none)
 else if inn.code=3∨inn.code=4 then learnedO a inn
 else if inn.code=5 then some (11,⟨0,0,[]⟩,a.ask)
 else if inn.code=6 then some (12,⟨0,0,[]⟩,a.ask)
 else match inn.data with
  |[]=>none
  |x::_=>if 1≤x.toNat∧x.toNat≤7 then some (15,⟨0,0,[]⟩,a.ask) else some (14,⟨0,0,[]⟩,a.ask)
def BytesO (w:World) (base:Nat) (v:Value) (l:List UInt8):Prop:=w.ownsRow base 5 1 v l.length (l.map bv)
theorem BytesO.nil (w:World) (base:Nat):BytesO w base (.slice none 0 0) []:=own_nil _ _ _ _
theorem BytesO.v {w:World} {base:Nat} {v:Value} {l:List UInt8} (h:BytesO w base v l):BytesV w w.heap.size v l:=by
 have h2:=h
 unfold BytesO at h2
 obtain⟨A,c,rfl,hc,-⟩:=ownsRow_form h2
 exact⟨A,_,c,rfl,At.of_own h2,rfl,hc⟩
theorem BytesO.other {A C:World} {base X:Nat} {v:Value} {l:List UInt8} {cur:Array Value} {e':TypeId} (h:BytesO A base v l) (hg:A.grownBy C (some X)) (hX:A.heap[X]? =some (.cells cur e' (0,0))) (h1:e'≠5):BytesO C base v l:=
 own_stays h hg fun r e=>by cases e;exact .inr (.inr ⟨_,_,hX,h1⟩)
theorem BytesO.base {A:World} {b b':Nat} {v:Value} {l:List UInt8} (h:BytesO A b v l) (hb:b'≤b):BytesO A b' v l:=own_base h hb
theorem BytesO.below {A C:World} {b:Nat} {v:Value} {l:List UInt8} (h:BytesO A b v l) (hb:Below A.heap.size A C):BytesO C b v l:=own_below h hb
def WhichP:Option (Int×Pk×List Opt)→World→Ending→World→Prop
 |none,w,x,w'=> ∃A n c,x=.returned (.tuple #[.int .i64 0,.agg #[.int .i64 0,.int .i64 0,.slice none 0 0],.slice A n c])∧Below w.heap.size w w'
 |some (e,ans,next),w,x,w'=> ∃Ad nd cd An nn cn,x=.returned (.tuple #[.int .i64 e,.agg #[.int .i64 ans.code,.int .i64 ans.id,.slice Ad nd cd],.slice An nn cn])∧Below w.heap.size w w'∧BytesO w' w.heap.size (.slice Ad nd cd) ans.data∧(e=10→OptsO w' w.heap.size (.slice An nn cn) next)
theorem askedO_ev {c:Cf} {a:Au} {inn:Pk} {r:Int×Pk×List Opt} (h:askedO c a inn=some r):r.1≠10:=by
 unfold askedO at h
 split at h
 ·cases h
 ·split at h
  ·cases h
  ·cases h
   dsimp only
   split<;>decide
theorem dec_facts (l:List UInt8):(Op.decR l).1.length≤64∧ ∀o∈(Op.decR l).1,o.2.length≤253:=by
 obtain⟨⟨Y,e⟩,h⟩: ∃r,Op.decR l=r:=⟨_,rfl⟩
 rw[h]
 by_cases he:e=0
 ·subst he
  have h2:=Op.back_dec h
  unfold Op.encR at h2
  split at h2
  ·cases h2
  ·split at h2
   ·rename_i h3 h4
    refine⟨by simp only;omega,fun o ho=>?_⟩
    have:=List.all_eq_true.1 h4 o ho
    simp only[Op.okO,Bool.and_eq_true,decide_eq_true_eq] at this
    exact this.2
   ·cases h2
 ·rw[Op.decR_err h he]
  exact⟨by simp,fun o ho=>by cases ho⟩
theorem ents_short {E:List Ent} {L:List Opt} {D:Nat} (h:E.map Ent.o=L) (hL: ∀o∈L,o.2.length≤D): ∀e∈E,e.d.length≤D:=fun e he=>hL e.o (by rw[←h];exact List.mem_map_of_mem he)
theorem DecP.get {w w':World} {l:List UInt8} {x:Ending} {Y:List Opt} {e:Int} (h:Op.DecP w l x w') (hR:Op.decR l=(Y,e)):
  ∃(E:List Ent) (A:Option Addr) (n c:Nat),x=.returned (.tuple #[.slice A n c,.int .i64 e])∧Below w.heap.size w w'∧OwnOpts w' w.heap.size (.slice A n c) E∧E.map Ent.o=Y∧n=E.length∧n≤c∧n≤64∧ ∀e∈E,e.d.length≤253:=by
 obtain⟨E,v,h1,h2,h3,h4⟩:=h
 obtain⟨f1,f2⟩:=dec_facts l
 rw[hR] at h1 h4 f1 f2
 simp only at h1 h4 f1 f2
 obtain⟨A,c,rfl,hc,-⟩:=ownsRow_form h3.1
 rw[←h4,List.length_map] at f1
 exact⟨E,A,E.length,c,h1,h2,h3,h4,rfl,hc,f1,ents_short h4 f2⟩
theorem EncP.get {w w':World} {L:List Opt} {x:Ending} {y:List UInt8} {e:Int} {n:Nat} (h:Op.EncP w L x w') (hR:Op.encR L=(y,e)) (hn:y.length=n):
  ∃A c,x=.returned (.tuple #[.slice A n c,.int .i64 e])∧Below w.heap.size w w'∧w'.ownsRow w.heap.size 5 1 (.slice A n c) n (y.map bv)∧n≤c:=by
 obtain⟨v,h1,h2,h3⟩:=h
 rw[hR] at h1 h3
 simp only at h1 h3
 subst hn
 obtain⟨A,c,rfl,hc,-⟩:=ownsRow_form h3
 exact⟨A,c,h1,h2,h3,hc⟩
theorem row3 {w:World} {X:Nat} {cs:Array Value} {T:TypeId} (h:w.heap[X]? =some (.cells cs T (0,0))) (hc:cs.size=3) (a b c:Value):
  (((w.setCell ⟨X,0,none⟩ a).setCell ⟨X,1,none⟩ b).setCell ⟨X,2,none⟩ c).heap[X]? =some (.cells #[a,b,c] T (0,0)):=by
 obtain⟨l⟩:=cs
 match l,hc with
 |[x0,x1,x2],_=>
  rw[heap_setCell_same _ X 2 _ _ _ (heap_setCell_same _ X 1 _ _ _ (heap_setCell_same _ X 0 _ _ _ h))]
  rfl
set_option maxRecDepth 100000 in
theorem asked_any (Ar Aa Ai:Option Addr) (nr cr na ca ni ci:Nat) (R:List Rl) (mc mt mf wt st id req cnt tim nak ic ii:Int) (E:List Ent) (li:List UInt8) (w:World) (B:Nat) (hB:B≤w.heap.size) (hR:RulesAt w B Ar R) (hnr:nr=R.length) (hlr:nr≤1000000) (hE:OptsAt w B Aa E) (hna:na=E.length) (hI:At w B Ai (li.map bv)) (hni:ni=li.length) (hci:ni≤ci):Calls Tryz.prog 95 #[.agg #[.slice Ar nr cr,.int .i64 mc,.int .i64 mt,.int .i64 mf,.int .i64 wt],.agg #[.int .i64 st,.int .i64 id,.int .i64 req,.slice Aa na ca,.int .i64 cnt,.int .i64 tim,.int .i64 nak],.agg #[.int .i64 ic,.int .i64 ii,.slice Ai ni ci]] w (WhichP (askedO ⟨R,mc,mt,mf,wt⟩ ⟨st,id,req,E.map Ent.o,cnt,tim,nak⟩ ⟨ic,ii,li⟩) w):=by
 have HB:=hid hB
 have HR:=hid hR
 have HNR:=hid hnr
 have HE:=hid hE
 have HNA:=hid hna
 have HI:=hid hI
 have HNI:=hid hni
 obtain⟨L,hL⟩: ∃L,E.map Ent.o=L:=⟨_,rfl⟩
 have HL:=hid hL
 rw[hL]
 clear hB hR hnr hE hna hL hI hni
 obtain⟨⟨Y,ye⟩,hd⟩: ∃r,Op.decR li=r:=⟨_,rfl⟩
 have HDR:=hid hd
 by_cases h0:ye=0
 ·subst h0
  obtain⟨⟨co,back⟩,han⟩: ∃r,answerO R Y nak mf=r:=⟨_,rfl⟩
  have HAN:=hid han
  obtain⟨⟨eb,ee⟩,hen⟩: ∃r,Op.encR back=r:=⟨_,rfl⟩
  have HEN:=hid hen
  obtain⟨nb,hnb⟩: ∃nb,eb.length=nb:=⟨_,rfl⟩
  have HNB:=hid hnb
  obtain⟨nk,hnk⟩: ∃nk,back.length=nk:=⟨_,rfl⟩
  have HNK:=hid hnk
  by_cases h1:ee=0
  ·subst h1
   have HO:=hid (show askedO ⟨R,mc,mt,mf,wt⟩ ⟨st,id,req,L,cnt,tim,nak⟩ ⟨ic,ii,li⟩=some (if co=2 then 7 else 8,⟨co,ii,eb⟩,L) by unfold askedO;dsimp only;rw[hd];dsimp only;rw[han];dsimp only;rw[hen];simp)
   rw[HO.out]
   clear hd han hen hnb hnk
   by_cases h2:co=2
   ·have h3:(co==2)=true:=by simpa using h2
    rw[if_pos h2]
    clear h2
    go_enter Tryz.func95,Tryz.ntmps95
    go_upto_region 1 with(fail)
    refine boxes4 ?_
    rintro W2 ⟨h6,h7,h8,h12,hbw⟩
    have HBW:=hid hbw
    have H12:=hid h12
    have hszW:=hbw.size
    have l6:=lt_blk h6
    have l7:=lt_blk h7
    have l8:=lt_blk h8
    have l12:=lt_blk h12
    obtain⟨p0,p1,p2,p3,p4⟩:=cells5 h6
    obtain⟨q0,q1,q2,q3,q4,q5,q6⟩:=cells7 h7
    obtain⟨r0,r1,r2⟩:=cells3 h8
    obtain⟨z0,z1,z2⟩:=cells3 h12
    have f0:=frees h12 0
    have f1:=frees h12 1
    have f2:=frees h12 2
    clear h6 h7 h8 h12 hbw
    go_wp2_with fail
    refine(Op.dec_any Ai ni ci li _ B (by have:=HB.out;omega) (HI.out.keep (HBW.out.mono HB.out)) HNI.out hci).mono ?_
    rintro x w3 hd
    obtain⟨E3,A3,n3,c3,rfl,hb3,ho3,he3,hn3,hc3,hl3,hs3⟩:=DecP.get hd HDR.out
    obtain⟨xs3,d3,rfl⟩:=ext_of hb3
    have HO3:=hid ho3
    have HE3:=hid he3
    have HN3:=hid hn3
    have HS3:=hid hs3
    clear hd hb3 ho3 he3 hn3 hs3
    go_wp2_with fail
    refine(Ne.answer_any Ar A3 nr cr n3 c3 nak mf R E3 Y HE3.out _ (ext W2 xs3 d3).heap.size (Nat.le_refl _) ((HR.out.keep ((show Below w.heap.size w (ext W2 xs3 d3) by have:=HBW.out;exact bel).mono HB.out)).more (by have:=HB.out;simp[size_ext,grow];omega)) HNR.out hlr HO3.out.at HN3.out (by omega) (by omega) (fun e he=>by have:=HS3.out e he;omega)).mono ?_
    rw[HAN.out]
    rintro x w4 ha
    obtain⟨E4,A4,c4,rfl,he4,hn4,hc4,hb4,ho4⟩:=Ne.RowsI.get ha HNK.out
    obtain⟨xs4,d4,rfl⟩:=ext_of hb4
    have HO4:=hid ho4
    have HE4:=hid he4
    have HN4:=hid hn4
    clear ha hb4 ho4 he4 hn4
    go_wp2_with fail
    refine(Op.enc_any A4 nk c4 E4 _ _ (Nat.le_refl _) HO4.out.at HN4.out).mono ?_
    rw[HE4.out]
    rintro x w5 he
    obtain⟨A5,c5,rfl,hb5,ho5,hc5⟩:=EncP.get he HEN.out HNB.out
    have HO5:=hid (own_base (base':=W2.heap.size) ho5 (by simp[size_ext,grow];omega))
    have HB5:=hid (show Below W2.heap.size W2 w5 from(show Below W2.heap.size W2 (ext (ext W2 xs3 d3) xs4 d4) by exact bel).trans (hb5.mono (by simp[size_ext,grow];omega)))
    have hs5:=HB5.out.size
    have r1':w5.cell? ⟨w.heap.size+1+1,1,none⟩=some (.int .i64 ii):=(HB5.out.cell (p:=⟨w.heap.size+1+1,1,none⟩) l8).trans r1
    have H12':=hid ((HB5.out.block _ l12).trans H12.out)
    have l8':w.heap.size+1+1<w5.heap.size:=by omega
    have l12':w.heap.size+1+1+1<w5.heap.size:=by omega
    clear he hb5 ho5 f0 f1 f2 z0 z1 z2 p0 p1 p2 p3 p4 q0 q1 q2 q3 q4 q5 q6 r0 r1 r2
    obtain⟨z0,z1,z2⟩:=cells3 H12'.out
    have f0:=frees H12'.out 0
    have f1:=frees H12'.out 1
    have f2:=frees H12'.out 2
    go_upto_region 9 with(fail)
    obtain⟨T,hT⟩: ∃T,T=w5.heap.size:=⟨_,rfl⟩
    rw[←hT]
    refine wp_w (fun W=>W.heap[T]? =some (.cells #[.int .i64 co,.int .i64 ii,.slice A5 nb c5] 32 (0,0))∧Below w5.heap.size w5 W) ⟨by rw[hT];exact heap_alloc_new _ _,by exact bel⟩ ?_
    rintro W6 ⟨h14,hb6⟩
    have HO6:=hid (own_below HO5.out hb6)
    have HZ:=hid ((hb6.block _ l12').trans H12'.out)
    have HBW6:=hid (HBW.out.trans ((HB5.out.trans (hb6.mono hs5)).mono hszW))
    have hs6:=hb6.size
    have l14:=lt_blk h14
    obtain⟨x0,x1,x2⟩:=cells3 h14
    clear z0 z1 z2 f0 f1 f2 r1' h14
    obtain⟨z0,z1,z2⟩:=cells3 HZ.out
    have f0:=frees HZ.out 0
    have f1:=frees HZ.out 1
    have f2:=frees HZ.out 2
    have lx3:=lt_blk HZ.out
    clear hb6
    have hne: ¬T=w.heap.size+1+1+1:=by omega
    clear hT
    go_wp2_with fail
    go_region_held3 (fun w'=>w'.cell? ⟨T,0,none⟩=some (.int .i64 co)∧w'.cell? ⟨T,1,none⟩=some (.int .i64 ii)∧w'.cell? ⟨T,2,none⟩=some (.slice A5 nb c5)) (first|(go_keep;done)|(go_simp;done)|(simp[go_sem];done)) (fail)
    all_goals
     go_wp2_with fail
     obtain⟨Wf,hWf⟩: ∃Wf:World,Wf=((((W6.setCell ⟨w.heap.size+1+1+1,0,none⟩ (.int .i64 co)).setCell ⟨w.heap.size+1+1+1,1,none⟩ (.int .i64 ii)).setCell ⟨w.heap.size+1+1+1,2,none⟩ (.slice A5 nb c5))).drew:=⟨_,rfl⟩
     rw[←hWf]
     have hrow:Wf.heap[w.heap.size+1+1+1]? =some (.cells #[.int .i64 co,.int .i64 ii,.slice A5 nb c5] 32 (0,0)):=by rw[hWf,hdrew];exact row3 HZ.out rfl _ _ _
     have hgr:W6.grownBy Wf (some (w.heap.size+1+1+1)):=by rw[hWf];exact grn
     clear hWf f0 f1 f2 z0 z1 z2 x0 x1 x2
     obtain⟨u0,u1,u2⟩:=cells3 hrow
     refine bodyPost_ret (v:=.tuple #[.int .i64 7,.agg #[.int .i64 co,.int .i64 ii,.slice A5 nb c5],.slice none 0 0]) (by simp[results,Tryz.results95,go_sem,u0,u1,u2]) rfl ?_
     exact⟨A5,nb,c5,none,0,0,rfl,HBW6.out.grown hgr (by omega) (fun k hk=>by cases hk;omega),by have h:=(BytesO.other (l:=eb) (by unfold BytesO;rw[HNB.out];exact HO6.out) hgr HZ.out (by decide));exact h.base hszW,fun h=>by cases h⟩
   ·have h3:(co==2)=false:=by simpa using h2
    rw[if_neg h2]
    clear h2
    go_enter Tryz.func95,Tryz.ntmps95
    go_upto_region 1 with(fail)
    refine boxes4 ?_
    rintro W2 ⟨h6,h7,h8,h12,hbw⟩
    have HBW:=hid hbw
    have H12:=hid h12
    have hszW:=hbw.size
    have l6:=lt_blk h6
    have l7:=lt_blk h7
    have l8:=lt_blk h8
    have l12:=lt_blk h12
    obtain⟨p0,p1,p2,p3,p4⟩:=cells5 h6
    obtain⟨q0,q1,q2,q3,q4,q5,q6⟩:=cells7 h7
    obtain⟨r0,r1,r2⟩:=cells3 h8
    obtain⟨z0,z1,z2⟩:=cells3 h12
    have f0:=frees h12 0
    have f1:=frees h12 1
    have f2:=frees h12 2
    clear h6 h7 h8 h12 hbw
    go_wp2_with fail
    refine(Op.dec_any Ai ni ci li _ B (by have:=HB.out;omega) (HI.out.keep (HBW.out.mono HB.out)) HNI.out hci).mono ?_
    rintro x w3 hd
    obtain⟨E3,A3,n3,c3,rfl,hb3,ho3,he3,hn3,hc3,hl3,hs3⟩:=DecP.get hd HDR.out
    obtain⟨xs3,d3,rfl⟩:=ext_of hb3
    have HO3:=hid ho3
    have HE3:=hid he3
    have HN3:=hid hn3
    have HS3:=hid hs3
    clear hd hb3 ho3 he3 hn3 hs3
    go_wp2_with fail
    refine(Ne.answer_any Ar A3 nr cr n3 c3 nak mf R E3 Y HE3.out _ (ext W2 xs3 d3).heap.size (Nat.le_refl _) ((HR.out.keep ((show Below w.heap.size w (ext W2 xs3 d3) by have:=HBW.out;exact bel).mono HB.out)).more (by have:=HB.out;simp[size_ext,grow];omega)) HNR.out hlr HO3.out.at HN3.out (by omega) (by omega) (fun e he=>by have:=HS3.out e he;omega)).mono ?_
    rw[HAN.out]
    rintro x w4 ha
    obtain⟨E4,A4,c4,rfl,he4,hn4,hc4,hb4,ho4⟩:=Ne.RowsI.get ha HNK.out
    obtain⟨xs4,d4,rfl⟩:=ext_of hb4
    have HO4:=hid ho4
    have HE4:=hid he4
    have HN4:=hid hn4
    clear ha hb4 ho4 he4 hn4
    go_wp2_with fail
    refine(Op.enc_any A4 nk c4 E4 _ _ (Nat.le_refl _) HO4.out.at HN4.out).mono ?_
    rw[HE4.out]
    rintro x w5 he
    obtain⟨A5,c5,rfl,hb5,ho5,hc5⟩:=EncP.get he HEN.out HNB.out
    have HO5:=hid (own_base (base':=W2.heap.size) ho5 (by simp[size_ext,grow];omega))
    have HB5:=hid (show Below W2.heap.size W2 w5 from(show Below W2.heap.size W2 (ext (ext W2 xs3 d3) xs4 d4) by exact bel).trans (hb5.mono (by simp[size_ext,grow];omega)))
    have hs5:=HB5.out.size
    have r1':w5.cell? ⟨w.heap.size+1+1,1,none⟩=some (.int .i64 ii):=(HB5.out.cell (p:=⟨w.heap.size+1+1,1,none⟩) l8).trans r1
    have H12':=hid ((HB5.out.block _ l12).trans H12.out)
    have l8':w.heap.size+1+1<w5.heap.size:=by omega
    have l12':w.heap.size+1+1+1<w5.heap.size:=by omega
    clear he hb5 ho5 f0 f1 f2 z0 z1 z2 p0 p1 p2 p3 p4 q0 q1 q2 q3 q4 q5 q6 r0 r1 r2
    obtain⟨z0,z1,z2⟩:=cells3 H12'.out
    have f0:=frees H12'.out 0
    have f1:=frees H12'.out 1
    have f2:=frees H12'.out 2
    go_upto_region 9 with(fail)
    obtain⟨T,hT⟩: ∃T,T=w5.heap.size:=⟨_,rfl⟩
    rw[←hT]
    refine wp_w (fun W=>W.heap[T]? =some (.cells #[.int .i64 co,.int .i64 ii,.slice A5 nb c5] 32 (0,0))∧Below w5.heap.size w5 W) ⟨by rw[hT];exact heap_alloc_new _ _,by exact bel⟩ ?_
    rintro W6 ⟨h14,hb6⟩
    have HO6:=hid (own_below HO5.out hb6)
    have HZ:=hid ((hb6.block _ l12').trans H12'.out)
    have HBW6:=hid (HBW.out.trans ((HB5.out.trans (hb6.mono hs5)).mono hszW))
    have hs6:=hb6.size
    have l14:=lt_blk h14
    obtain⟨x0,x1,x2⟩:=cells3 h14
    clear z0 z1 z2 f0 f1 f2 r1' h14
    obtain⟨z0,z1,z2⟩:=cells3 HZ.out
    have f0:=frees HZ.out 0
    have f1:=frees HZ.out 1
    have f2:=frees HZ.out 2
    have lx3:=lt_blk HZ.out
    clear hb6
    have hne: ¬T=w.heap.size+1+1+1:=by omega
    clear hT
    go_wp2_with fail
    go_region_held3 (fun w'=>w'.cell? ⟨T,0,none⟩=some (.int .i64 co)∧w'.cell? ⟨T,1,none⟩=some (.int .i64 ii)∧w'.cell? ⟨T,2,none⟩=some (.slice A5 nb c5)) (first|(go_keep;done)|(go_simp;done)|(simp[go_sem];done)) (fail)
    all_goals
     go_wp2_with fail
     obtain⟨Wf,hWf⟩: ∃Wf:World,Wf=((((W6.setCell ⟨w.heap.size+1+1+1,0,none⟩ (.int .i64 co)).setCell ⟨w.heap.size+1+1+1,1,none⟩ (.int .i64 ii)).setCell ⟨w.heap.size+1+1+1,2,none⟩ (.slice A5 nb c5))).drew:=⟨_,rfl⟩
     rw[←hWf]
     have hrow:Wf.heap[w.heap.size+1+1+1]? =some (.cells #[.int .i64 co,.int .i64 ii,.slice A5 nb c5] 32 (0,0)):=by rw[hWf,hdrew];exact row3 HZ.out rfl _ _ _
     have hgr:W6.grownBy Wf (some (w.heap.size+1+1+1)):=by rw[hWf];exact grn
     clear hWf f0 f1 f2 z0 z1 z2 x0 x1 x2
     obtain⟨u0,u1,u2⟩:=cells3 hrow
     refine bodyPost_ret (v:=.tuple #[.int .i64 8,.agg #[.int .i64 co,.int .i64 ii,.slice A5 nb c5],.slice none 0 0]) (by simp[results,Tryz.results95,go_sem,u0,u1,u2]) rfl ?_
     exact⟨A5,nb,c5,none,0,0,rfl,HBW6.out.grown hgr (by omega) (fun k hk=>by cases hk;omega),by have h:=(BytesO.other (l:=eb) (by unfold BytesO;rw[HNB.out];exact HO6.out) hgr HZ.out (by decide));exact h.base hszW,fun h=>by cases h⟩
  ·have HO:=hid (show askedO ⟨R,mc,mt,mf,wt⟩ ⟨st,id,req,L,cnt,tim,nak⟩ ⟨ic,ii,li⟩=none by unfold askedO;dsimp only;rw[hd];dsimp only;rw[han];dsimp only;rw[hen];simp[h1])
   rw[HO.out]
   have h1':(ee !=0)=true:=by simpa using h1
   clear hd han hen hnb hnk h1
   go_enter Tryz.func95,Tryz.ntmps95
   go_upto_region 1 with(fail)
   refine boxes4 ?_
   rintro W2 ⟨h6,h7,h8,h12,hbw⟩
   have HBW:=hid hbw
   have H12:=hid h12
   have hszW:=hbw.size
   have l6:=lt_blk h6
   have l7:=lt_blk h7
   have l8:=lt_blk h8
   have l12:=lt_blk h12
   obtain⟨p0,p1,p2,p3,p4⟩:=cells5 h6
   obtain⟨q0,q1,q2,q3,q4,q5,q6⟩:=cells7 h7
   obtain⟨r0,r1,r2⟩:=cells3 h8
   obtain⟨z0,z1,z2⟩:=cells3 h12
   have f0:=frees h12 0
   have f1:=frees h12 1
   have f2:=frees h12 2
   clear h6 h7 h8 h12 hbw
   go_wp2_with fail
   refine(Op.dec_any Ai ni ci li _ B (by have:=HB.out;omega) (HI.out.keep (HBW.out.mono HB.out)) HNI.out hci).mono ?_
   rintro x w3 hd
   obtain⟨E3,A3,n3,c3,rfl,hb3,ho3,he3,hn3,hc3,hl3,hs3⟩:=DecP.get hd HDR.out
   obtain⟨xs3,d3,rfl⟩:=ext_of hb3
   have HO3:=hid ho3
   have HE3:=hid he3
   have HN3:=hid hn3
   have HS3:=hid hs3
   clear hd hb3 ho3 he3 hn3 hs3
   go_wp2_with fail
   refine(Ne.answer_any Ar A3 nr cr n3 c3 nak mf R E3 Y HE3.out _ (ext W2 xs3 d3).heap.size (Nat.le_refl _) ((HR.out.keep ((show Below w.heap.size w (ext W2 xs3 d3) by have:=HBW.out;exact bel).mono HB.out)).more (by have:=HB.out;simp[size_ext,grow];omega)) HNR.out hlr HO3.out.at HN3.out (by omega) (by omega) (fun e he=>by have:=HS3.out e he;omega)).mono ?_
   rw[HAN.out]
   rintro x w4 ha
   obtain⟨E4,A4,c4,rfl,he4,hn4,hc4,hb4,ho4⟩:=Ne.RowsI.get ha HNK.out
   obtain⟨xs4,d4,rfl⟩:=ext_of hb4
   have HO4:=hid ho4
   have HE4:=hid he4
   have HN4:=hid hn4
   clear ha hb4 ho4 he4 hn4
   go_wp2_with fail
   refine(Op.enc_any A4 nk c4 E4 _ _ (Nat.le_refl _) HO4.out.at HN4.out).mono ?_
   rw[HE4.out]
   rintro x w5 he
   obtain⟨A5,c5,rfl,hb5,ho5,hc5⟩:=EncP.get he HEN.out HNB.out
   have HO5:=hid (own_base (base':=W2.heap.size) ho5 (by simp[size_ext,grow];omega))
   have HB5:=hid (show Below W2.heap.size W2 w5 from(show Below W2.heap.size W2 (ext (ext W2 xs3 d3) xs4 d4) by exact bel).trans (hb5.mono (by simp[size_ext,grow];omega)))
   have hs5:=HB5.out.size
   have r1':w5.cell? ⟨w.heap.size+1+1,1,none⟩=some (.int .i64 ii):=(HB5.out.cell (p:=⟨w.heap.size+1+1,1,none⟩) l8).trans r1
   have H12':=hid ((HB5.out.block _ l12).trans H12.out)
   have l8':w.heap.size+1+1<w5.heap.size:=by omega
   have l12':w.heap.size+1+1+1<w5.heap.size:=by omega
   clear he hb5 ho5 f0 f1 f2 z0 z1 z2 p0 p1 p2 p3 p4 q0 q1 q2 q3 q4 q5 q6 r0 r1 r2
   obtain⟨z0,z1,z2⟩:=cells3 H12'.out
   have f0:=frees H12'.out 0
   have f1:=frees H12'.out 1
   have f2:=frees H12'.out 2
   go_wp2_with fail
   obtain⟨Wf,hWf⟩: ∃Wf:World,Wf=((w5.setCell ⟨w.heap.size+1+1+1,0,none⟩ (.int .i64 0)).setCell ⟨w.heap.size+1+1+1,1,none⟩ (.int .i64 0)).setCell ⟨w.heap.size+1+1+1,2,none⟩ (.slice none 0 0):=⟨_,rfl⟩
   rw[←hWf]
   have hrow:Wf.heap[w.heap.size+1+1+1]? =some (.cells #[.int .i64 0,.int .i64 0,.slice none 0 0] 32 (0,0)):=by rw[hWf];exact row3 H12'.out rfl _ _ _
   have hgr:(w5).grownBy Wf (some (w.heap.size+1+1+1)):=by rw[hWf];first|with_reducible exact grown_exts grn (by simp)|exact grn
   clear hWf f0 f1 f2 z0 z1 z2
   obtain⟨u0,u1,u2⟩:=cells3 hrow
   refine bodyPost_ret (v:=.tuple #[.int .i64 0,.agg #[.int .i64 0,.int .i64 0,.slice none 0 0],.slice none 0 0]) (by simp[results,Tryz.results95,go_sem,u0,u1,u2]) rfl ?_
   exact⟨_,_,_,rfl,Below.grown (HBW.out.trans (HB5.out.mono hszW)) hgr (Nat.le_trans hszW hs5) (fun k hk=>by cases hk;omega)⟩
 ·have HO:=hid (show askedO ⟨R,mc,mt,mf,wt⟩ ⟨st,id,req,L,cnt,tim,nak⟩ ⟨ic,ii,li⟩=none by unfold askedO;dsimp only;rw[hd];simp[h0])
  rw[HO.out]
  have h0':(ye !=0)=true:=by simpa using h0
  clear hd h0
  go_enter Tryz.func95,Tryz.ntmps95
  go_upto_region 1 with(fail)
  refine boxes4 ?_
  rintro W2 ⟨h6,h7,h8,h12,hbw⟩
  have HBW:=hid hbw
  have H12:=hid h12
  have hszW:=hbw.size
  have l6:=lt_blk h6
  have l7:=lt_blk h7
  have l8:=lt_blk h8
  have l12:=lt_blk h12
  obtain⟨p0,p1,p2,p3,p4⟩:=cells5 h6
  obtain⟨q0,q1,q2,q3,q4,q5,q6⟩:=cells7 h7
  obtain⟨r0,r1,r2⟩:=cells3 h8
  obtain⟨z0,z1,z2⟩:=cells3 h12
  have f0:=frees h12 0
  have f1:=frees h12 1
  have f2:=frees h12 2
  clear h6 h7 h8 h12 hbw
  go_wp2_with fail
  refine(Op.dec_any Ai ni ci li _ B (by have:=HB.out;omega) (HI.out.keep (HBW.out.mono HB.out)) HNI.out hci).mono ?_
  rintro x w3 hd
  obtain⟨E3,A3,n3,c3,rfl,hb3,ho3,he3,hn3,hc3,hl3,hs3⟩:=DecP.get hd HDR.out
  obtain⟨xs3,d3,rfl⟩:=ext_of hb3
  have HO3:=hid ho3
  have HE3:=hid he3
  have HN3:=hid hn3
  have HS3:=hid hs3
  clear hd hb3 ho3 he3 hn3 hs3
  go_wp2_with fail
  obtain⟨Wf,hWf⟩: ∃Wf:World,Wf=ext (((W2.setCell ⟨w.heap.size+1+1+1,0,none⟩ (.int .i64 0)).setCell ⟨w.heap.size+1+1+1,1,none⟩ (.int .i64 0)).setCell ⟨w.heap.size+1+1+1,2,none⟩ (.slice none 0 0)) xs3 d3:=⟨_,rfl⟩
  rw[←hWf]
  have hrow:Wf.heap[w.heap.size+1+1+1]? =some (.cells #[.int .i64 0,.int .i64 0,.slice none 0 0] 32 (0,0)):=by rw[hWf];exact(heap_ext _ _ _ _ (by first|(simp[size_ext,grow];done)|(simp[size_ext,grow];omega))).trans (row3 H12.out rfl _ _ _)
  have hgr:(ext W2 xs3 d3).grownBy Wf (some (w.heap.size+1+1+1)):=by rw[hWf];first|with_reducible exact grown_exts grn (by simp)|exact grn
  clear hWf f0 f1 f2 z0 z1 z2
  obtain⟨u0,u1,u2⟩:=cells3 hrow
  refine bodyPost_ret (v:=.tuple #[.int .i64 0,.agg #[.int .i64 0,.int .i64 0,.slice none 0 0],.slice none 0 0]) (by simp[results,Tryz.results95,go_sem,u0,u1,u2]) rfl ?_
  exact⟨_,_,_,rfl,Below.grown ((show Below w.heap.size w (ext W2 xs3 d3) by have:=HBW.out;exact bel)) hgr ((by simp[size_ext,grow];omega)) (fun k hk=>by cases hk;omega)⟩
end Go.Proofs.YtfkgmbknfnhjoaaGreat
namespace Go.Proofs.YtfkgmbknfnhjoaaGreat
open Lib (hid)
open Go.RowKit
set_option linter.unusedSimpArgs false
set_option linter.unusedVariables false
set_option linter.ambiguousOpen false
open Ne (Rl Opt RulesAt areB answerO learnO)
open Fs (av hasB)
set_option maxRecDepth 100000 in
theorem which_1 (Ar Aa Ai:Option Addr) (nr cr na ca ni ci:Nat) (R:List Rl) (mc mt mf wt st id req cnt tim nak ii:Int) (E:List Ent) (li:List UInt8) (w:World) (B:Nat) (hB:B≤w.heap.size) (hR:RulesAt w B Ar R) (hnr:nr=R.length) (hlr:nr≤1000000) (hE:OptsAt w B Aa E) (hna:na=E.length) (hla:na≤1000000) (hda: ∀e∈E,e.d.length≤1000000) (hI:At w B Ai (li.map bv)) (hni:ni=li.length) (hci:ni≤ci):Calls Tryz.prog 61 #[.agg #[.slice Ar nr cr,.int .i64 mc,.int .i64 mt,.int .i64 mf,.int .i64 wt],.agg #[.int .i64 st,.int .i64 id,.int .i64 req,.slice Aa na ca,.int .i64 cnt,.int .i64 tim,.int .i64 nak],.agg #[.int .i64 1,.int .i64 ii,.slice Ai ni ci]] w (WhichP (whichO ⟨R,mc,mt,mf,wt⟩ ⟨st,id,req,E.map Ent.o,cnt,tim,nak⟩ ⟨1,ii,li⟩) w):=by
 have HB:=hid hB
 have HR:=hid hR
 have HNR:=hid hnr
 have HE:=hid hE
 have HNA:=hid hna
 have HDA:=hid hda
 have HI:=hid hI
 have HNI:=hid hni
 obtain⟨L,hL⟩: ∃L,E.map Ent.o=L:=⟨_,rfl⟩
 have HL:=hid hL
 rw[hL]
 clear hB hR hnr hE hna hda hL hI hni
 have HO:=hid (show whichO ⟨R,mc,mt,mf,wt⟩ ⟨st,id,req,L,cnt,tim,nak⟩ ⟨1,ii,li⟩=askedO ⟨R,mc,mt,mf,wt⟩ ⟨st,id,req,L,cnt,tim,nak⟩ ⟨1,ii,li⟩ from if_pos rfl)
 rw[HO.out]
 obtain⟨r,hr⟩: ∃r,askedO ⟨R,mc,mt,mf,wt⟩ ⟨st,id,req,L,cnt,tim,nak⟩ ⟨1,ii,li⟩=r:=⟨_,rfl⟩
 have HA:=hid hr
 rw[hr]
 clear hr
 go_enter Tryz.func61,Tryz.ntmps61
 go_upto_region 1 with(fail)
 refine boxes4 ?_
 rintro W2 ⟨h6,h7,h8,h12,hbw⟩
 have HBW:=hid hbw
 have H12:=hid h12
 have hszW:=hbw.size
 have l6:=lt_blk h6
 have l7:=lt_blk h7
 have l8:=lt_blk h8
 have l12:=lt_blk h12
 obtain⟨p0,p1,p2,p3,p4⟩:=cells5 h6
 obtain⟨q0,q1,q2,q3,q4,q5,q6⟩:=cells7 h7
 obtain⟨r0,r1,r2⟩:=cells3 h8
 obtain⟨z0,z1,z2⟩:=cells3 h12
 have f0:=frees h12 0
 have f1:=frees h12 1
 have f2:=frees h12 2
 clear h6 h7 h8 h12 hbw
 go_wp2_with fail
 refine(asked_any Ar Aa Ai nr cr na ca ni ci R mc mt mf wt st id req cnt tim nak 1 ii E li W2 B (by have:=HB.out;omega) (HR.out.keep (HBW.out.mono HB.out)) HNR.out hlr (HE.out.keep (HBW.out.mono HB.out)) HNA.out (HI.out.keep (HBW.out.mono HB.out)) HNI.out hci).mono ?_
 rw[HL.out,HA.out]
 cases r with
 |none=>
  rintro x w3 ⟨A4,n4,c4,rfl,hb⟩
  obtain⟨xs3,d3,rfl⟩:=ext_of hb
  clear hb
  go_wp2_with fail
  obtain⟨Wf,hWf⟩: ∃Wf:World,Wf=ext (((W2.setCell ⟨w.heap.size+1+1+1,0,none⟩ (.int .i64 0)).setCell ⟨w.heap.size+1+1+1,1,none⟩ (.int .i64 0)).setCell ⟨w.heap.size+1+1+1,2,none⟩ (.slice none 0 0)) xs3 d3:=⟨_,rfl⟩
  rw[←hWf]
  have hrow:Wf.heap[w.heap.size+1+1+1]? =some (.cells #[.int .i64 0,.int .i64 0,.slice none 0 0] 32 (0,0)):=by rw[hWf];exact(heap_ext _ _ _ _ (by first|(simp[size_ext,grow];done)|(simp[size_ext,grow];omega))).trans (row3 H12.out rfl _ _ _)
  have hgr:(W2).grownBy Wf (some (w.heap.size+1+1+1)):=by rw[hWf];first|with_reducible exact grown_exts grn (by simp)|exact grn
  have hbf:Below w.heap.size w Wf:=Below.grown (by have:=HBW.out;exact bel) hgr (by first|exact hszW|(simp[size_ext,grow];omega)) (fun k hk=>by cases hk;omega)
  clear hWf f0 f1 f2 z0 z1 z2
  obtain⟨u0,u1,u2⟩:=cells3 hrow
  refine bodyPost_ret (v:=.tuple #[.int .i64 0,.agg #[.int .i64 0,.int .i64 0,.slice none 0 0],.slice A4 n4 c4]) (by simp[results,Tryz.results61,go_sem,u0,u1,u2]) rfl ?_
  exact⟨_,_,_,rfl,hbf⟩
 |some r=>
  obtain⟨ev,⟨aco,aid,ad⟩,next⟩:=r
  rintro x w3 ⟨Ad,nd,cd,A4,n4,c4,rfl,hb,hby,hop⟩
  have HBY:=hid hby
  have HZ:=hid ((hb.block _ l12).trans H12.out)
  obtain⟨xs3,d3,rfl⟩:=ext_of hb
  clear hb hby hop
  dsimp only
  go_wp2_with fail
  obtain⟨Wf,hWf⟩: ∃Wf:World,Wf=ext (((W2.setCell ⟨w.heap.size+1+1+1,0,none⟩ (.int .i64 aco)).setCell ⟨w.heap.size+1+1+1,1,none⟩ (.int .i64 aid)).setCell ⟨w.heap.size+1+1+1,2,none⟩ (.slice Ad nd cd)) xs3 d3:=⟨_,rfl⟩
  rw[←hWf]
  have hrow:Wf.heap[w.heap.size+1+1+1]? =some (.cells #[.int .i64 aco,.int .i64 aid,.slice Ad nd cd] 32 (0,0)):=by rw[hWf];exact(heap_ext _ _ _ _ (by first|(simp[size_ext,grow];done)|(simp[size_ext,grow];omega))).trans (row3 H12.out rfl _ _ _)
  have hgr:(ext W2 xs3 d3).grownBy Wf (some (w.heap.size+1+1+1)):=by rw[hWf];first|with_reducible exact grown_exts grn (by simp)|exact grn
  have hbf:Below w.heap.size w Wf:=Below.grown (by have:=HBW.out;exact bel) hgr (by first|exact hszW|(simp[size_ext,grow];omega)) (fun k hk=>by cases hk;omega)
  clear hWf f0 f1 f2 z0 z1 z2
  obtain⟨u0,u1,u2⟩:=cells3 hrow
  refine bodyPost_ret (v:=.tuple #[.int .i64 ev,.agg #[.int .i64 aco,.int .i64 aid,.slice Ad nd cd],.slice A4 n4 c4]) (by simp[results,Tryz.results61,go_sem,u0,u1,u2]) rfl ?_
  exact⟨Ad,nd,cd,A4,n4,c4,rfl,hbf,(HBY.out.other hgr ((HZ.out)) (by decide)).base hszW,fun h=>absurd h (askedO_ev HA.out)⟩
set_option maxRecDepth 100000 in
theorem which_5 (Ar Aa Ai:Option Addr) (nr cr na ca ni ci:Nat) (R:List Rl) (mc mt mf wt st id req cnt tim nak ii:Int) (E:List Ent) (li:List UInt8) (w:World) (B:Nat) (hB:B≤w.heap.size) (hR:RulesAt w B Ar R) (hnr:nr=R.length) (hlr:nr≤1000000) (hE:OptsAt w B Aa E) (hna:na=E.length) (hla:na≤1000000) (hda: ∀e∈E,e.d.length≤1000000) (hI:At w B Ai (li.map bv)) (hni:ni=li.length) (hci:ni≤ci):Calls Tryz.prog 61 #[.agg #[.slice Ar nr cr,.int .i64 mc,.int .i64 mt,.int .i64 mf,.int .i64 wt],.agg #[.int .i64 st,.int .i64 id,.int .i64 req,.slice Aa na ca,.int .i64 cnt,.int .i64 tim,.int .i64 nak],.agg #[.int .i64 5,.int .i64 ii,.slice Ai ni ci]] w (WhichP (whichO ⟨R,mc,mt,mf,wt⟩ ⟨st,id,req,E.map Ent.o,cnt,tim,nak⟩ ⟨5,ii,li⟩) w):=by
 have HB:=hid hB
 have HR:=hid hR
 have HNR:=hid hnr
 have HE:=hid hE
 have HNA:=hid hna
 have HDA:=hid hda
 have HI:=hid hI
 have HNI:=hid hni
 obtain⟨L,hL⟩: ∃L,E.map Ent.o=L:=⟨_,rfl⟩
 have HL:=hid hL
 rw[hL]
 clear hB hR hnr hE hna hda hL hI hni
 have HO:=hid (show whichO ⟨R,mc,mt,mf,wt⟩ ⟨st,id,req,L,cnt,tim,nak⟩ ⟨5,ii,li⟩=some (11,⟨0,0,[]⟩,L) from rfl)
 rw[HO.out]
 go_enter Tryz.func61,Tryz.ntmps61
 go_upto_region 1 with(fail)
 refine boxes4 ?_
 rintro W2 ⟨h6,h7,h8,h12,hbw⟩
 have HBW:=hid hbw
 have H12:=hid h12
 have hszW:=hbw.size
 have l6:=lt_blk h6
 have l7:=lt_blk h7
 have l8:=lt_blk h8
 have l12:=lt_blk h12
 obtain⟨p0,p1,p2,p3,p4⟩:=cells5 h6
 obtain⟨q0,q1,q2,q3,q4,q5,q6⟩:=cells7 h7
 obtain⟨r0,r1,r2⟩:=cells3 h8
 obtain⟨z0,z1,z2⟩:=cells3 h12
 have f0:=frees h12 0
 have f1:=frees h12 1
 have f2:=frees h12 2
 clear h6 h7 h8 h12 hbw
 go_wp2_with fail
 obtain⟨Wf,hWf⟩: ∃Wf:World,Wf=(((W2.setCell ⟨w.heap.size+1+1+1,0,none⟩ (.int .i64 0)).setCell ⟨w.heap.size+1+1+1,1,none⟩ (.int .i64 0)).setCell ⟨w.heap.size+1+1+1,2,none⟩ (.slice none 0 0)):=⟨_,rfl⟩
 rw[←hWf]
 have hrow:Wf.heap[w.heap.size+1+1+1]? =some (.cells #[.int .i64 0,.int .i64 0,.slice none 0 0] 32 (0,0)):=by rw[hWf];exact row3 H12.out rfl _ _ _
 have hgr:(W2).grownBy Wf (some (w.heap.size+1+1+1)):=by rw[hWf];first|with_reducible exact grown_exts grn (by simp)|exact grn
 have hbf:Below w.heap.size w Wf:=Below.grown (by have:=HBW.out;exact bel) hgr (by first|exact hszW|(simp[size_ext,grow];omega)) (fun k hk=>by cases hk;omega)
 clear hWf f0 f1 f2 z0 z1 z2
 obtain⟨u0,u1,u2⟩:=cells3 hrow
 refine bodyPost_ret (v:=.tuple #[.int .i64 11,.agg #[.int .i64 0,.int .i64 0,.slice none 0 0],.slice none 0 0]) (by simp[results,Tryz.results61,go_sem,u0,u1,u2]) rfl ?_
 exact⟨none,0,0,none,0,0,rfl,hbf,BytesO.nil _ _,fun h=>by cases h⟩
set_option maxRecDepth 100000 in
theorem which_6 (Ar Aa Ai:Option Addr) (nr cr na ca ni ci:Nat) (R:List Rl) (mc mt mf wt st id req cnt tim nak ii:Int) (E:List Ent) (li:List UInt8) (w:World) (B:Nat) (hB:B≤w.heap.size) (hR:RulesAt w B Ar R) (hnr:nr=R.length) (hlr:nr≤1000000) (hE:OptsAt w B Aa E) (hna:na=E.length) (hla:na≤1000000) (hda: ∀e∈E,e.d.length≤1000000) (hI:At w B Ai (li.map bv)) (hni:ni=li.length) (hci:ni≤ci):Calls Tryz.prog 61 #[.agg #[.slice Ar nr cr,.int .i64 mc,.int .i64 mt,.int .i64 mf,.int .i64 wt],.agg #[.int .i64 st,.int .i64 id,.int .i64 req,.slice Aa na ca,.int .i64 cnt,.int .i64 tim,.int .i64 nak],.agg #[.int .i64 6,.int .i64 ii,.slice Ai ni ci]] w (WhichP (whichO ⟨R,mc,mt,mf,wt⟩ ⟨st,id,req,E.map Ent.o,cnt,tim,nak⟩ ⟨6,ii,li⟩) w):=by
 have HB:=hid hB
 have HR:=hid hR
 have HNR:=hid hnr
 have HE:=hid hE
 have HNA:=hid hna
 have HDA:=hid hda
 have HI:=hid hI
 have HNI:=hid hni
 obtain⟨L,hL⟩: ∃L,E.map Ent.o=L:=⟨_,rfl⟩
 have HL:=hid hL
 rw[hL]
 clear hB hR hnr hE hna hda hL hI hni
 have HO:=hid (show whichO ⟨R,mc,mt,mf,wt⟩ ⟨st,id,req,L,cnt,tim,nak⟩ ⟨6,ii,li⟩=some (12,⟨0,0,[]⟩,L) from rfl)
 rw[HO.out]
 go_enter Tryz.func61,Tryz.ntmps61
 go_upto_region 1 with(fail)
 refine boxes4 ?_
 rintro W2 ⟨h6,h7,h8,h12,hbw⟩
 have HBW:=hid hbw
 have H12:=hid h12
 have hszW:=hbw.size
 have l6:=lt_blk h6
 have l7:=lt_blk h7
 have l8:=lt_blk h8
 have l12:=lt_blk h12
 obtain⟨p0,p1,p2,p3,p4⟩:=cells5 h6
 obtain⟨q0,q1,q2,q3,q4,q5,q6⟩:=cells7 h7
 obtain⟨r0,r1,r2⟩:=cells3 h8
 obtain⟨z0,z1,z2⟩:=cells3 h12
 have f0:=frees h12 0
 have f1:=frees h12 1
 have f2:=frees h12 2
 clear h6 h7 h8 h12 hbw
 go_wp2_with fail
 obtain⟨Wf,hWf⟩: ∃Wf:World,Wf=(((W2.setCell ⟨w.heap.size+1+1+1,0,none⟩ (.int .i64 0)).setCell ⟨w.heap.size+1+1+1,1,none⟩ (.int .i64 0)).setCell ⟨w.heap.size+1+1+1,2,none⟩ (.slice none 0 0)):=⟨_,rfl⟩
 rw[←hWf]
 have hrow:Wf.heap[w.heap.size+1+1+1]? =some (.cells #[.int .i64 0,.int .i64 0,.slice none 0 0] 32 (0,0)):=by rw[hWf];exact row3 H12.out rfl _ _ _
 have hgr:(W2).grownBy Wf (some (w.heap.size+1+1+1)):=by rw[hWf];first|with_reducible exact grown_exts grn (by simp)|exact grn
 have hbf:Below w.heap.size w Wf:=Below.grown (by have:=HBW.out;exact bel) hgr (by first|exact hszW|(simp[size_ext,grow];omega)) (fun k hk=>by cases hk;omega)
 clear hWf f0 f1 f2 z0 z1 z2
 obtain⟨u0,u1,u2⟩:=cells3 hrow
 refine bodyPost_ret (v:=.tuple #[.int .i64 12,.agg #[.int .i64 0,.int .i64 0,.slice none 0 0],.slice none 0 0]) (by simp[results,Tryz.results61,go_sem,u0,u1,u2]) rfl ?_
 exact⟨none,0,0,none,0,0,rfl,hbf,BytesO.nil _ _,fun h=>by cases h⟩
set_option maxRecDepth 100000 in
theorem which_2 (Ar Aa Ai:Option Addr) (nr cr na ca ni ci:Nat) (R:List Rl) (mc mt mf wt st id req cnt tim nak ii:Int) (E:List Ent) (li:List UInt8) (w:World) (B:Nat) (hB:B≤w.heap.size) (hR:RulesAt w B Ar R) (hnr:nr=R.length) (hlr:nr≤1000000) (hE:OptsAt w B Aa E) (hna:na=E.length) (hla:na≤1000000) (hda: ∀e∈E,e.d.length≤1000000) (hI:At w B Ai (li.map bv)) (hni:ni=li.length) (hci:ni≤ci):Calls Tryz.prog 61 #[.agg #[.slice Ar nr cr,.int .i64 mc,.int .i64 mt,.int .i64 mf,.int .i64 wt],.agg #[.int .i64 st,.int .i64 id,.int .i64 req,.slice Aa na ca,.int .i64 cnt,.int .i64 tim,.int .i64 nak],.agg #[.int .i64 2,.int .i64 ii,.slice Ai ni ci]] w (WhichP (whichO ⟨R,mc,mt,mf,wt⟩ ⟨st,id,req,E.map Ent.o,cnt,tim,nak⟩ ⟨2,ii,li⟩) w):=by
 have HB:=hid hB
 have HR:=hid hR
 have HNR:=hid hnr
 have HE:=hid hE
 have HNA:=hid hna
 have HDA:=hid hda
 have HI:=hid hI
 have HNI:=hid hni
 obtain⟨L,hL⟩: ∃L,E.map Ent.o=L:=⟨_,rfl⟩
 have HL:=hid hL
 rw[hL]
 clear hB hR hnr hE hna hda hL hI hni
 obtain⟨⟨eb,ee⟩,hen⟩: ∃r,Op.encR L=r:=⟨_,rfl⟩
 have HEN:=hid hen
 obtain⟨nb,hnb⟩: ∃nb,eb.length=nb:=⟨_,rfl⟩
 have HNB:=hid hnb
 have HO0:=hid (show whichO ⟨R,mc,mt,mf,wt⟩ ⟨st,id,req,L,cnt,tim,nak⟩ ⟨2,ii,li⟩=if ii=req∧li=eb then some (9,⟨0,0,[]⟩,L) else none by have h:whichO ⟨R,mc,mt,mf,wt⟩ ⟨st,id,req,L,cnt,tim,nak⟩ ⟨2,ii,li⟩=if ii=req∧li=(Op.encR L).1 then some (9,⟨0,0,[]⟩,L) else none:=rfl;rw[h,hen])
 rw[HO0.out]
 clear hen hnb HO0
 by_cases h1:ii=req
 ·have h1':(ii==req)=true:=by simpa using h1
  cases h2:(li==eb)
  ·have HQ:=hid (show¬(ii=req∧li=eb) from fun h=>by simp at h2;exact h2 h.2)
   rw[if_neg HQ.out]
   clear h1
   go_enter Tryz.func61,Tryz.ntmps61
   go_upto_region 1 with(fail)
   refine boxes4 ?_
   rintro W2 ⟨h6,h7,h8,h12,hbw⟩
   have HBW:=hid hbw
   have H12:=hid h12
   have hszW:=hbw.size
   have l6:=lt_blk h6
   have l7:=lt_blk h7
   have l8:=lt_blk h8
   have l12:=lt_blk h12
   obtain⟨p0,p1,p2,p3,p4⟩:=cells5 h6
   obtain⟨q0,q1,q2,q3,q4,q5,q6⟩:=cells7 h7
   obtain⟨r0,r1,r2⟩:=cells3 h8
   obtain⟨z0,z1,z2⟩:=cells3 h12
   have f0:=frees h12 0
   have f1:=frees h12 1
   have f2:=frees h12 2
   clear h6 h7 h8 h12 hbw
   go_wp2_with fail
   refine(Op.enc_any Aa na ca E _ B (by have:=HB.out;omega) (HE.out.keep (HBW.out.mono HB.out)) HNA.out).mono ?_
   rw[HL.out]
   rintro x w5 he
   obtain⟨A5,c5,rfl,hb5,ho5,hc5⟩:=EncP.get he HEN.out HNB.out
   have HO5:=hid ho5
   have HB5:=hid (show Below W2.heap.size W2 w5 from hb5)
   have hs5:=HB5.out.size
   have H125:=hid ((HB5.out.block _ l12).trans H12.out)
   obtain⟨⟨l75,l85,l125⟩,⟨t25,t35⟩,⟨v05,v15,v25⟩,⟨z05,z15,z25⟩,⟨f05,f15,f25⟩⟩:=afterK HB5.out l7 l8 l12 q2 q3 r0 r1 r2 H12.out
   clear he hb5 ho5 f0 f1 f2 z0 z1 z2 p0 p1 p2 p3 p4 q0 q1 q2 q3 q4 q5 q6 r0 r1 r2
   have k1: ∀W:World,At W w5.heap.size Ai (li.map bv)→(convert 30 9 (.slice Ai ni ci)).run Tryz.prog W=.ok (.string ⟨li.toArray⟩) W:=fun W h=>run_str Tryz.underlying30 Tryz.underlying5 Tryz.underlying9 HNI.out h
   have k2: ∀W:World,At W w5.heap.size A5 (eb.map bv)→(convert 30 9 (.slice A5 nb c5)).run Tryz.prog W=.ok (.string ⟨eb.toArray⟩) W:=fun W h=>run_str Tryz.underlying30 Tryz.underlying5 Tryz.underlying9 HNB.out.symm h
   have g1:At w5 w5.heap.size Ai (li.map bv):=((HI.out.keep ((HBW.out.trans (HB5.out.mono hszW)).mono HB.out))).more (by have:=HB.out;omega)
   have g2:At w5 w5.heap.size A5 (eb.map bv):=At.of_own HO5.out
   go_wp2_with fail
   clear k1 k2 g1 g2
   obtain⟨Wf,hWf⟩: ∃Wf:World,Wf=(((w5.setCell ⟨w.heap.size+1+1+1,0,none⟩ (.int .i64 0)).setCell ⟨w.heap.size+1+1+1,1,none⟩ (.int .i64 0)).setCell ⟨w.heap.size+1+1+1,2,none⟩ (.slice none 0 0)):=⟨_,rfl⟩
   rw[←hWf]
   have hrow:Wf.heap[w.heap.size+1+1+1]? =some (.cells #[.int .i64 0,.int .i64 0,.slice none 0 0] 32 (0,0)):=by rw[hWf];exact row3 H125.out rfl _ _ _
   have hgr:(w5).grownBy Wf (some (w.heap.size+1+1+1)):=by rw[hWf];exact grn
   have hbf:Below w.heap.size w Wf:=Below.grown (HBW.out.trans (HB5.out.mono hszW)) hgr (Nat.le_trans hszW hs5) (fun k hk=>by cases hk;omega)
   clear hWf z05 z15 z25 f05 f15 f25
   obtain⟨u0,u1,u2⟩:=cells3 hrow
   refine bodyPost_ret (v:=.tuple #[.int .i64 0,.agg #[.int .i64 0,.int .i64 0,.slice none 0 0],.slice none 0 0]) (by simp[results,Tryz.results61,go_sem,u0,u1,u2]) rfl ?_
   exact⟨_,_,_,rfl,hbf⟩
  ·have HQ:=hid (show ii=req∧li=eb from ⟨h1,by simpa using h2⟩)
   rw[if_pos HQ.out]
   clear h1
   go_enter Tryz.func61,Tryz.ntmps61
   go_upto_region 1 with(fail)
   refine boxes4 ?_
   rintro W2 ⟨h6,h7,h8,h12,hbw⟩
   have HBW:=hid hbw
   have H12:=hid h12
   have hszW:=hbw.size
   have l6:=lt_blk h6
   have l7:=lt_blk h7
   have l8:=lt_blk h8
   have l12:=lt_blk h12
   obtain⟨p0,p1,p2,p3,p4⟩:=cells5 h6
   obtain⟨q0,q1,q2,q3,q4,q5,q6⟩:=cells7 h7
   obtain⟨r0,r1,r2⟩:=cells3 h8
   obtain⟨z0,z1,z2⟩:=cells3 h12
   have f0:=frees h12 0
   have f1:=frees h12 1
   have f2:=frees h12 2
   clear h6 h7 h8 h12 hbw
   go_wp2_with fail
   refine(Op.enc_any Aa na ca E _ B (by have:=HB.out;omega) (HE.out.keep (HBW.out.mono HB.out)) HNA.out).mono ?_
   rw[HL.out]
   rintro x w5 he
   obtain⟨A5,c5,rfl,hb5,ho5,hc5⟩:=EncP.get he HEN.out HNB.out
   have HO5:=hid ho5
   have HB5:=hid (show Below W2.heap.size W2 w5 from hb5)
   have hs5:=HB5.out.size
   have H125:=hid ((HB5.out.block _ l12).trans H12.out)
   obtain⟨⟨l75,l85,l125⟩,⟨t25,t35⟩,⟨v05,v15,v25⟩,⟨z05,z15,z25⟩,⟨f05,f15,f25⟩⟩:=afterK HB5.out l7 l8 l12 q2 q3 r0 r1 r2 H12.out
   clear he hb5 ho5 f0 f1 f2 z0 z1 z2 p0 p1 p2 p3 p4 q0 q1 q2 q3 q4 q5 q6 r0 r1 r2
   have k1: ∀W:World,At W w5.heap.size Ai (li.map bv)→(convert 30 9 (.slice Ai ni ci)).run Tryz.prog W=.ok (.string ⟨li.toArray⟩) W:=fun W h=>run_str Tryz.underlying30 Tryz.underlying5 Tryz.underlying9 HNI.out h
   have k2: ∀W:World,At W w5.heap.size A5 (eb.map bv)→(convert 30 9 (.slice A5 nb c5)).run Tryz.prog W=.ok (.string ⟨eb.toArray⟩) W:=fun W h=>run_str Tryz.underlying30 Tryz.underlying5 Tryz.underlying9 HNB.out.symm h
   have g1:At w5 w5.heap.size Ai (li.map bv):=((HI.out.keep ((HBW.out.trans (HB5.out.mono hszW)).mono HB.out))).more (by have:=HB.out;omega)
   have g2:At w5 w5.heap.size A5 (eb.map bv):=At.of_own HO5.out
   go_wp2_with fail
   clear k1 k2 g1 g2
   obtain⟨Wf,hWf⟩: ∃Wf:World,Wf=(((w5.setCell ⟨w.heap.size+1+1+1,0,none⟩ (.int .i64 0)).setCell ⟨w.heap.size+1+1+1,1,none⟩ (.int .i64 0)).setCell ⟨w.heap.size+1+1+1,2,none⟩ (.slice none 0 0)):=⟨_,rfl⟩
   rw[←hWf]
   have hrow:Wf.heap[w.heap.size+1+1+1]? =some (.cells #[.int .i64 0,.int .i64 0,.slice none 0 0] 32 (0,0)):=by rw[hWf];exact row3 H125.out rfl _ _ _
   have hgr:(w5).grownBy Wf (some (w.heap.size+1+1+1)):=by rw[hWf];exact grn
   have hbf:Below w.heap.size w Wf:=Below.grown (HBW.out.trans (HB5.out.mono hszW)) hgr (Nat.le_trans hszW hs5) (fun k hk=>by cases hk;omega)
   clear hWf z05 z15 z25 f05 f15 f25
   obtain⟨u0,u1,u2⟩:=cells3 hrow
   refine bodyPost_ret (v:=.tuple #[.int .i64 9,.agg #[.int .i64 0,.int .i64 0,.slice none 0 0],.slice none 0 0]) (by simp[results,Tryz.results61,go_sem,u0,u1,u2]) rfl ?_
   exact⟨none,0,0,none,0,0,rfl,hbf,BytesO.nil _ _,fun h=>by cases h⟩
 ·have h1':(ii==req)=false:=by simpa using h1
  have HQ:=hid (show¬(ii=req∧li=eb) from fun h=>h1 h.1)
  rw[if_neg HQ.out]
  clear h1
  go_enter Tryz.func61,Tryz.ntmps61
  go_upto_region 1 with(fail)
  refine boxes4 ?_
  rintro W2 ⟨h6,h7,h8,h12,hbw⟩
  have HBW:=hid hbw
  have H12:=hid h12
  have hszW:=hbw.size
  have l6:=lt_blk h6
  have l7:=lt_blk h7
  have l8:=lt_blk h8
  have l12:=lt_blk h12
  obtain⟨p0,p1,p2,p3,p4⟩:=cells5 h6
  obtain⟨q0,q1,q2,q3,q4,q5,q6⟩:=cells7 h7
  obtain⟨r0,r1,r2⟩:=cells3 h8
  obtain⟨z0,z1,z2⟩:=cells3 h12
  have f0:=frees h12 0
  have f1:=frees h12 1
  have f2:=frees h12 2
  clear h6 h7 h8 h12 hbw
  go_wp2_with fail
  refine(Op.enc_any Aa na ca E _ B (by have:=HB.out;omega) (HE.out.keep (HBW.out.mono HB.out)) HNA.out).mono ?_
  rw[HL.out]
  rintro x w5 he
  obtain⟨A5,c5,rfl,hb5,ho5,hc5⟩:=EncP.get he HEN.out HNB.out
  have HO5:=hid ho5
  have HB5:=hid (show Below W2.heap.size W2 w5 from hb5)
  have hs5:=HB5.out.size
  have H125:=hid ((HB5.out.block _ l12).trans H12.out)
  obtain⟨⟨l75,l85,l125⟩,⟨t25,t35⟩,⟨v05,v15,v25⟩,⟨z05,z15,z25⟩,⟨f05,f15,f25⟩⟩:=afterK HB5.out l7 l8 l12 q2 q3 r0 r1 r2 H12.out
  clear he hb5 ho5 f0 f1 f2 z0 z1 z2 p0 p1 p2 p3 p4 q0 q1 q2 q3 q4 q5 q6 r0 r1 r2
  go_wp2_with fail
  obtain⟨Wf,hWf⟩: ∃Wf:World,Wf=(((w5.setCell ⟨w.heap.size+1+1+1,0,none⟩ (.int .i64 0)).setCell ⟨w.heap.size+1+1+1,1,none⟩ (.int .i64 0)).setCell ⟨w.heap.size+1+1+1,2,none⟩ (.slice none 0 0)):=⟨_,rfl⟩
  rw[←hWf]
  have hrow:Wf.heap[w.heap.size+1+1+1]? =some (.cells #[.int .i64 0,.int .i64 0,.slice none 0 0] 32 (0,0)):=by rw[hWf];exact row3 H125.out rfl _ _ _
  have hgr:(w5).grownBy Wf (some (w.heap.size+1+1+1)):=by rw[hWf];exact grn
  have hbf:Below w.heap.size w Wf:=Below.grown (HBW.out.trans (HB5.out.mono hszW)) hgr (Nat.le_trans hszW hs5) (fun k hk=>by cases hk;omega)
  clear hWf z05 z15 z25 f05 f15 f25
  obtain⟨u0,u1,u2⟩:=cells3 hrow
  refine bodyPost_ret (v:=.tuple #[.int .i64 0,.agg #[.int .i64 0,.int .i64 0,.slice none 0 0],.slice none 0 0]) (by simp[results,Tryz.results61,go_sem,u0,u1,u2]) rfl ?_
  exact⟨_,_,_,rfl,hbf⟩
end Go.Proofs.YtfkgmbknfnhjoaaGreat
